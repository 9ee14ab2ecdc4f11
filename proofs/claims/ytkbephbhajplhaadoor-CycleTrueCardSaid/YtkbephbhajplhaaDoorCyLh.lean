/- What the ghost comes to: the statement 10. Conditions: none (equations, each by computation). -/
import Derived.Test.YtkbephbhajplhaaDoorCyHa
import Derived.Test.YtkbephbhajplhaaDoorCyAw
import Derived.Test.YtkbephbhajplhaaDoorCyWr
namespace Go.Proofs.YtkbephbhajplhaaDoor
open Go Go.Gh Go.Proofs
end Go.Proofs.YtkbephbhajplhaaDoor
/- CycleFewest: without the sums of Wrong there is a truth, without any fewer there is none. Conditions: none. -/
namespace Go.Proofs.YtkbephbhajplhaaDoor
open Go Go.Gh Go.Proofs Go.Few
theorem wrong_best {s : Se} (h0 : (chkP s).2.2.1 = 0) : (∃ r, wrongP s = (r, 0, ()) ∧ Best (fun l => l.Sublist (idxL s) ∧ okW s l = true) r) ∨ (wrongP s = ([], 9, ()) ∧ ∀ l, l.Sublist (idxL s) → okW s l = false) := by
 rw [wrong_find h0]
 have hall : ∀ l, l ∈ subsTo (idxL s) (s.2.1.length + 1) ↔ l.Sublist (idxL s) := fun l => by
  have := mem_all (hs := idxL s) (l := l)
  rwa [idx_len] at this
 cases hf : (subsTo (idxL s) (s.2.1.length + 1)).find? (okW s) with
 | some r =>
  have hb := find_best (okW s) (subsTo_pair (show (idxL s).Pairwise (· < ·) from upto_pair _ _) _) hf
  exact .inl ⟨r, rfl, hb.iff fun l => by rw [hall]⟩
 | none =>
  refine .inr ⟨rfl, fun l hl => ?_⟩
  have := List.find?_eq_none.1 hf l ((hall l).2 hl)
  simpa using this
end Go.Proofs.YtkbephbhajplhaaDoor
/- Maxima of truths, and how far they are apart. Conditions: as each lemma states. -/
namespace Go.Proofs.YtkbephbhajplhaaDoor
open Go Go.Gh Go.Proofs
theorem mem_tops {n : Nat} {t : List Int} {j : Nat} : j ∈ topsFrom n t 0 ↔ j < n ∧ isTop n t j = true := by
 unfold topsFrom
 rw [List.mem_filter, List.mem_range'_1]
 simp
theorem top_zero (n : Nat) (t : List Int) : isTop n t 0 = false := by unfold isTop; simp
theorem Alv.gap_in {s : Se} (h : Alv s) {t : List Int} (ht : t ∈ truthsR s 0) {v : Int} (hv : v ∈ gapsL (topsFrom s.1.length t 0)) : (gapsP s).2.1 = 0 ∧ inGap (gapsP s).1 v = true := by
 have hm : v ∈ gapsR s := by unfold gapsR; exact List.mem_flatMap.2 ⟨t, ht, hv⟩
 rw [h.gaps]
 rcases spanH (gapsR_bd h.ok.hi) with ⟨e, _⟩ | ⟨x, e, hh⟩
 ·rw [e] at hm; simp at hm
 ·rw [e]
  refine ⟨rfl, ?_⟩
  have := hh.all v hm
  unfold inGap
  rw [dec_t this.1, dec_t this.2]; rfl
end Go.Proofs.YtkbephbhajplhaaDoor
/- A series whose sums are as numbers make them. Conditions: as each lemma states. -/
namespace Go.Proofs.YtkbephbhajplhaaDoor
open Go Go.Gh Go.Proofs
def toldV (s : Se) (x : List Int) (i : Nat) : Int := (s.1.getD i sp0).1 + turnP x i % ((s.1.getD i sp0).2.1 - (s.1.getD i sp0).1 + 1)
def toldL (s : Se) (x : List Int) (i : Nat) : List Int := (List.range i).map (toldV s x)
def toldT (n u v : Int) : Sp := (if n - u > 0 then n - u else 0, if n + v < 999 then n + v else 999, ())
def toldS (s : Se) (l off : List Int) (k : Nat) : Sm :=
 ((s.2.1.getD k sm0).1, (s.2.1.getD k sm0).2.1, toldT (sumL l (s.2.1.getD k sm0).1.toNat (s.2.1.getD k sm0).2.1.toNat) (turnP off (2 * k) % 4) (turnP off (2 * k + 1) % 4), ())
def toldC (s : Se) (l off : List Int) (m : Nat) : List Sm := (List.range s.2.1.length).map fun k => if k < m then toldS s l off k else s.2.1.getD k sm0
def toldG (s : Se) (l : List Int) : Sp := if gapChk s.2.2.1 (-1) (topsFrom s.1.length l 0) = true then s.2.2.1 else (2, 7, ())
def toldP (s : Se) (x off : List Int) : Se := (s.1, toldC s (toldL s x s.1.length) off s.2.1.length, toldG s (toldL s x s.1.length), ())
theorem toldL_len (s : Se) (x : List Int) (i : Nat) : (toldL s x i).length = i := by simp [toldL]
theorem toldC_len (s : Se) (l off : List Int) (m : Nat) : (toldC s l off m).length = s.2.1.length := by simp [toldC]
theorem toldC_get (s : Se) (l off : List Int) (m : Nat) {k : Nat} (hk : k < s.2.1.length) (d : Sm) : (toldC s l off m).getD k d = if k < m then toldS s l off k else s.2.1.getD k sm0 := by
 rw [getD_lt (by rw [toldC_len]; exact hk)]
 simp [toldC]
theorem toldC_zero (s : Se) (l off : List Int) : toldC s l off 0 = s.2.1 := by
 refine List.ext_getElem (toldC_len _ _ _ _) fun k h1 h2 => ?_
 have := toldC_get s l off 0 h2 sm0
 rw [getD_lt h1, if_neg (by omega), getD_lt h2] at this
 exact this
theorem toldC_set (s : Se) (l off : List Int) {m : Nat} (hm : m < s.2.1.length) : (toldC s l off m).set m (toldS s l off m) = toldC s l off (m + 1) := by
 refine List.ext_getElem (by rw [List.length_set, toldC_len, toldC_len]) fun k h1 h2 => ?_
 rw [toldC_len] at h2
 rw [List.getElem_set]
 have e1 := toldC_get s l off m h2 sm0
 have e2 := toldC_get s l off (m + 1) h2 sm0
 rw [getD_lt (by rw [toldC_len]; exact h2)] at e1 e2
 rw [e1, e2]
 by_cases e : m = k
 ·subst e; rw [if_pos rfl, if_pos (by omega)]
 ·rw [if_neg e]
  by_cases h : k < m
  ·rw [if_pos h, if_pos (by omega)]
  ·rw [if_neg h, if_neg (by omega)]
theorem toldV_in {s : Se} (hs : VS s) {x : List Int} {i : Nat} (hi : i < s.1.length) : (s.1.getD i sp0).1 ≤ toldV s x i ∧ toldV s x i ≤ (s.1.getD i sp0).2.1 := by
 have hy := hs.years i hi
 have h1 := Int.emod_nonneg (turnP x i) (show (s.1.getD i sp0).2.1 - (s.1.getD i sp0).1 + 1 ≠ 0 by omega)
 have h2 := Int.emod_lt_of_pos (turnP x i) (show 0 < (s.1.getD i sp0).2.1 - (s.1.getD i sp0).1 + 1 by omega)
 unfold toldV
 omega
theorem toldL_all {s : Se} (hs : VS s) (x : List Int) : ∀ i, i ≤ s.1.length → toldL s x i ∈ allB s i
 | 0, _ => by simp [toldL, allB]
 | i + 1, h => by
  have ih := toldL_all hs x i (by omega)
  have hv := toldV_in hs (x := x) (show i < s.1.length by omega)
  have e : toldL s x (i + 1) = toldL s x i ++ [toldV s x i] := by simp [toldL, List.range_succ]
  rw [e]
  simp only [allB, List.mem_flatMap, List.mem_map]
  refine ⟨_, ih, toldV s x i, ?_, rfl⟩
  unfold valsOf
  rw [Few.mem_upto]; omega
theorem gap_wide : ∀ {T : List Nat} {a : Nat}, (a :: T).Pairwise (fun a b => a + 2 ≤ b) → (∀ v ∈ T, v < 7) → gapChk (2, 7, ()) (a : Int) T = true
 | [], _, _, _ => rfl
 | b :: r, a, hp, hb => by
  rw [List.pairwise_cons] at hp
  have h1 := hp.1 b (by simp)
  have h2 := hb b (by simp)
  simp only [gapChk, Bool.and_eq_true, Bool.or_eq_true]
  refine ⟨.inr ?_, gap_wide hp.2 fun v hv => hb v (by simp [hv])⟩
  unfold inGap
  rw [Bool.and_eq_true, decide_eq_true_eq, decide_eq_true_eq]
  simp only; omega
theorem tops_apart (n : Nat) (t : List Int) : (topsFrom n t 0).Pairwise fun a b => a + 2 ≤ b := by
 refine (tops_pair n t).imp_of_mem fun {a b} ha hb hab => ?_
 rw [mem_tops] at ha hb
 by_cases e : b = a + 1
 ·exfalso
  have h1 : 0 < a ∧ a + 1 < n := by
   refine ⟨Nat.pos_of_ne_zero fun e => ?_, by omega⟩
   subst e; rw [top_zero] at ha; cases ha.2
  have h2 : b + 1 < n := by
   refine Classical.byContradiction fun hc => ?_
   rw [isTop_end (by omega)] at hb; cases hb.2
  have a2 := ha.2
  have b2 := hb.2
  rw [isTop_mid h1.1 h1.2, Bool.and_eq_true, decide_eq_true_eq, decide_eq_true_eq] at a2
  rw [isTop_mid (by omega) h2, Bool.and_eq_true, decide_eq_true_eq, decide_eq_true_eq] at b2
  subst e
  rw [show a + 1 - 1 = a by omega] at b2
  omega
 ·omega
theorem gap_any {n : Nat} (hn : n ≤ 7) (t : List Int) : gapChk (2, 7, ()) (-1) (topsFrom n t 0) = true := by
 have h1 := tops_apart n t
 have h2 : ∀ v ∈ topsFrom n t 0, v < 7 := fun v hv => by have := tops_lt hv; omega
 generalize topsFrom n t 0 = T at h1 h2
 cases T with
 | nil => rfl
 | cons a T =>
  simp only [gapChk, Bool.and_eq_true, Bool.or_eq_true, decide_eq_true_eq]
  exact ⟨.inl (by omega), gap_wide h1 fun v hv => h2 v (by simp [hv])⟩
theorem toldL_bd {s : Se} (hs : VS s) (x : List Int) : ∀ v ∈ toldL s x s.1.length, 0 ≤ v ∧ v ≤ 99 := allB_bd hs (Nat.le_refl _) (toldL_all hs x _ (Nat.le_refl _))
theorem told_sum {s : Se} (hs : VS s) (x : List Int) (a b : Nat) : 0 ≤ sumL (toldL s x s.1.length) a b ∧ sumL (toldL s x s.1.length) a b ≤ 693 := by
 have h7 := hs.hi
 have h1 := sumI_bd (l := ((toldL s x s.1.length).take (b + 1)).drop a) fun v hv => toldL_bd hs x v (List.mem_of_mem_take (List.mem_of_mem_drop hv))
 have h2 : (((toldL s x s.1.length).take (b + 1)).drop a).length ≤ 7 := by rw [List.length_drop, List.length_take, toldL_len]; omega
 unfold sumL; omega
theorem told_vs {s : Se} (hs : VS s) (x off : List Int) : VS (toldP s x off) := by
 refine ⟨hs.lo, hs.hi, hs.years, ?_, fun k hk => ?_, ?_⟩
 ·show (toldC s _ off _).length ≤ 4
  rw [toldC_len]; exact hs.many
 ·have hk' : k < s.2.1.length := by
   have : k < (toldC s (toldL s x s.1.length) off s.2.1.length).length := hk
   rwa [toldC_len] at this
  have h := hs.sums k hk'
  show 0 ≤ ((toldC s _ off _).getD k sm0).1 ∧ ((toldC s _ off _).getD k sm0).1 ≤ ((toldC s _ off _).getD k sm0).2.1 ∧ ((toldC s _ off _).getD k sm0).2.1 < s.1.length ∧ 0 ≤ ((toldC s _ off _).getD k sm0).2.2.1.1 ∧ ((toldC s _ off _).getD k sm0).2.2.1.1 ≤ ((toldC s _ off _).getD k sm0).2.2.1.2.1 ∧ ((toldC s _ off _).getD k sm0).2.2.1.2.1 ≤ 999
  rw [toldC_get s _ off _ hk' sm0, if_pos hk']
  have hb := told_sum hs x (s.2.1.getD k sm0).1.toNat (s.2.1.getD k sm0).2.1.toNat
  have m1 := Int.emod_nonneg (turnP off (2 * k)) (show (4 : Int) ≠ 0 by decide)
  have m2 := Int.emod_nonneg (turnP off (2 * k + 1)) (show (4 : Int) ≠ 0 by decide)
  refine ⟨h.1, h.2.1, h.2.2.1, ?_⟩
  simp only [toldS, toldT]
  generalize sumL (toldL s x s.1.length) (s.2.1.getD k sm0).1.toNat (s.2.1.getD k sm0).2.1.toNat = n at *
  generalize turnP off (2 * k) % 4 = u at *
  generalize turnP off (2 * k + 1) % 4 = v at *
  split <;> split <;> omega
 ·show 2 ≤ (toldG s _).1 ∧ (toldG s _).1 ≤ (toldG s _).2.1 ∧ (toldG s _).2.1 ≤ 7
  unfold toldG
  split
  ·exact hs.gap
  ·exact ⟨by decide, by decide, by decide⟩
theorem told_truth {s : Se} (hs : VS s) (x off : List Int) : toldL s x s.1.length ∈ truthsR (toldP s x off) 0 := by
 unfold truthsR
 rw [List.mem_filter]
 refine ⟨?_, ?_⟩
 ·have e : ∀ i, allB (toldP s x off) i = allB s i := fun i => by
   induction i with
   | zero => rfl
   | succ i ih => simp only [allB]; rw [ih]; rfl
  rw [e]
  exact toldL_all hs x _ (Nat.le_refl _)
 ·unfold okAll
  rw [Bool.and_eq_true, List.all_eq_true]
  refine ⟨?_, fun k hk => ?_⟩
  ·show gapChk (toldG s _) (-1) (topsFrom s.1.length _ 0) = true
   unfold toldG
   split
   ·assumption
   ·exact gap_any hs.hi _
  ·have hk' : k < s.2.1.length := by
    have : k < (toldC s (toldL s x s.1.length) off s.2.1.length).length := List.mem_range.1 hk
    rwa [toldC_len] at this
   unfold okSumR
   rw [Bool.or_eq_true]
   right
   show inGap ((toldC s _ off _).getD k sm0).2.2.1 (sumL _ ((toldC s _ off _).getD k sm0).1.toNat ((toldC s _ off _).getD k sm0).2.1.toNat) = true
   rw [toldC_get s _ off _ hk' sm0, if_pos hk']
   have hb := told_sum hs x (s.2.1.getD k sm0).1.toNat (s.2.1.getD k sm0).2.1.toNat
   have m1 := Int.emod_nonneg (turnP off (2 * k)) (show (4 : Int) ≠ 0 by decide)
   have m2 := Int.emod_nonneg (turnP off (2 * k + 1)) (show (4 : Int) ≠ 0 by decide)
   unfold inGap
   rw [Bool.and_eq_true, decide_eq_true_eq, decide_eq_true_eq]
   simp only [toldS, toldT]
   generalize sumL (toldL s x s.1.length) (s.2.1.getD k sm0).1.toNat (s.2.1.getD k sm0).2.1.toNat = n at *
   generalize turnP off (2 * k) % 4 = u at *
   generalize turnP off (2 * k + 1) % 4 = v at *
   split <;> split <;> omega
theorem told_alv {s : Se} (hs : VS s) (x off : List Int) : Alv (toldP s x off) := ⟨told_vs hs x off, fun e => by
 have := told_truth hs x off
 rw [e] at this; simp at this⟩
theorem L39 (s : Se) (hs : VS s) (x off : List Int) (hx : ∀ v ∈ x, 0 ≤ v ∧ v ≤ 255) (ho : ∀ v ∈ off, 0 ≤ v ∧ v ≤ 255) : F39 ((s, x, off, ()) : Se × List Int × List Int × Unit) = some (toldP s x off, toldL s x s.1.length, ()) := by
 have h7 := hs.hi
 have h3 := hs.lo
 have h4 := hs.many
 refine N39 _ _ _ ?_
 have second : ∀ (c m : Nat), m + c = s.2.1.length → Ev fun k => T39_1 off (m : Int) s.1 s.2.2.1 ([], [], (0, 0, ()), ()) (toldL s x s.1.length) (toldC s (toldL s x s.1.length) off m) k = some (toldP s x off, toldL s x s.1.length, ()) := by
  intro c
  induction c with
  | zero =>
   intro m hm
   obtain rfl : m = s.2.1.length := by omega
   refine R39_1 _ _ _ _ _ _ _ ?_
   rw [toldC_len, dec_f (by omega), L110 _ _ (by rw [toldL_len]; omega) (by rw [toldL_len]; omega), L36]
   simp only [cond_false, Option.bind_some]
   unfold toldP toldG
   rw [toldL_len]
   cases hg : gapChk s.2.2.1 (-1) (topsFrom s.1.length (toldL s x s.1.length) 0) with
   | true => rw [if_pos rfl]; exact Ev.all fun _ => rfl
   | false => rw [if_neg (by simp)]; exact Ev.all fun _ => rfl
  | succ c ih =>
   intro m hm
   have hlt : m < s.2.1.length := by omega
   have ih := ih (m + 1) (by omega)
   rw [← toldC_set s _ off hlt] at ih
   have hsm := hs.sums m hlt
   obtain ⟨u, hu⟩ := Int.eq_ofNat_of_zero_le hsm.1
   obtain ⟨v, hv⟩ := Int.eq_ofNat_of_zero_le (show 0 ≤ (s.2.1.getD m sm0).2.1 by omega)
   have hb := told_sum hs x u v
   refine R39_1 _ _ _ _ _ _ _ ?_
   have t1 := L109 off ho (2 * m)
   have t2 := L109 off ho (2 * m + 1)
   have tm : ∀ p : Int, 0 ≤ p → Int.tmod p 4 = p % 4 := fun p hp => Int.tmod_eq_emod_of_nonneg hp
   have m1 := Int.emod_nonneg (turnP off (2 * m)) (show (4 : Int) ≠ 0 by decide)
   have m2 := Int.emod_nonneg (turnP off (2 * m + 1)) (show (4 : Int) ≠ 0 by decide)
   have m3 := Int.emod_lt_of_pos (turnP off (2 * m)) (show (0 : Int) < 4 by decide)
   have m4 := Int.emod_lt_of_pos (turnP off (2 * m + 1)) (show (0 : Int) < 4 by decide)
   have w1 : IntKind.wrap IntKind.i64 (2 * (m : Int)) = ((2 * m : Nat) : Int) := by rw [wrap_id (by omega) (by omega)]; omega
   have w2 : IntKind.wrap IntKind.i64 (((2 * m : Nat) : Int) + 1) = ((2 * m + 1 : Nat) : Int) := by rw [wrap_id (by omega) (by omega)]; omega
   have hS : toldS s (toldL s x s.1.length) off m = ((u : Int), (v : Int), toldT (sumL (toldL s x s.1.length) u v) (turnP off (2 * m) % 4) (turnP off (2 * m + 1) % 4), ()) := by
    unfold toldS; rw [hu, hv, Int.toNat_natCast, Int.toNat_natCast]
   rw [hS] at ih
   rw [toldC_len, dec_t (show (m : Int) < (s.2.1.length : Int) by omega), dec_t (show (0 : Int) ≤ (m : Int) by omega), Int.toNat_natCast, dec_t hlt, toldC_get s _ off m hlt, if_neg (by omega), hu, hv, L47 _ u v (by rw [toldL_len]; omega) (by rw [toldL_len]; omega) (toldL_bd hs x), w1, w2, t1.1]
   simp only [Bool.and_self, cond_true, Option.bind_some]
   rw [t2.1]
   simp only [Option.bind_some]
   rw [tm _ t1.2.1, tm _ t2.2.1, L36, wrap_succ (n := m) (by omega)]
   simp only [Option.bind_some]
   unfold toldT at ih
   generalize sumL (toldL s x s.1.length) u v = n at *
   generalize turnP off (2 * m) % 4 = p at *
   generalize turnP off (2 * m + 1) % 4 = q at *
   rw [wrap_id (x := n - p) (by omega) (by omega), wrap_id (x := n + q) (by omega) (by omega)]
   exact ih
 have first : ∀ (c i : Nat), i + c = s.1.length → Ev fun k => T39_0 x off (i : Int) s ([], [], (0, 0, ()), ()) (toldL s x i) k = some (toldP s x off, toldL s x s.1.length, ()) := by
  intro c
  induction c with
  | zero =>
   intro i hi
   obtain rfl : i = s.1.length := by omega
   refine R39_0 _ _ _ _ _ _ ?_
   have := second s.2.1.length 0 (by omega)
   rw [toldC_zero] at this
   rw [dec_f (by omega), dec_t (show s.2.1.length ≤ 2147483648 by omega)]
   exact this
  | succ c ih =>
   intro i hi
   have hlt : i < s.1.length := by omega
   have ih := ih (i + 1) (by omega)
   have hy := hs.years i hlt
   have hv := toldV_in hs (x := x) hlt
   have e : toldL s x (i + 1) = toldL s x i ++ [toldV s x i] := by simp [toldL, List.range_succ]
   rw [e] at ih
   have t1 := L109 x hx i
   refine R39_0 _ _ _ _ _ _ ?_
   rw [show s.1.getD (Int.toNat (i : Int)) (0, 0, ()) = s.1.getD i sp0 from rfl, dec_t (show (i : Int) < (s.1.length : Int) by omega), dec_t (show (0 : Int) ≤ (i : Int) by omega), t1.1, wrap_id (x := (s.1.getD i sp0).2.1 - (s.1.getD i sp0).1) (by omega) (by omega), wrap_id (x := (s.1.getD i sp0).2.1 - (s.1.getD i sp0).1 + 1) (by omega) (by omega)]
   simp only [Bool.and_self, cond_true, Option.bind_some]
   have et : Int.tmod (turnP x i) ((s.1.getD i sp0).2.1 - (s.1.getD i sp0).1 + 1) = turnP x i % ((s.1.getD i sp0).2.1 - (s.1.getD i sp0).1 + 1) := Int.tmod_eq_emod_of_nonneg t1.2.1
   rw [one_set, et, show (s.1.getD i sp0).1 + turnP x i % ((s.1.getD i sp0).2.1 - (s.1.getD i sp0).1 + 1) = toldV s x i from rfl, wrap_id (x := toldV s x i) (by omega) (by omega), dec_f (show ¬ ((s.1.getD i sp0).2.1 - (s.1.getD i sp0).1 + 1 = 0) by omega), dec_t (show (toldL s x i).length + [toldV s x i].length ≤ 2147483648 by rw [toldL_len]; simp only [List.length_cons, List.length_nil]; omega), wrap_succ (n := i) (by omega)]
   exact ih
 exact first s.1.length 0 (by omega)
end Go.Proofs.YtkbephbhajplhaaDoor
/- What the ghost comes to: the statement 8. Conditions: none (equations, each by computation). -/
namespace Go.Proofs.YtkbephbhajplhaaDoor
open Go Go.Gh Go.Proofs
def S8 : List Gh.Spec := [{ key := (0, 8, 10, 1), frs := [{ fn := 8, n := 251, regs := [(9, (.ptr 80009 [])), (10, (.dat (.slice (.int .i64)))), (13, (.dat (.slice (.int .i64)))), (14, (.dat (.slice (.int .i64)))), (15, (.dat (.int .i64)))], round := none, defers := [] }], heap := [(80009, .box (.dat tSe) false)] }, { key := (0, 8, 21, 1), frs := [{ fn := 8, n := 251, regs := [(9, (.ptr 80009 [])), (10, (.dat (.slice (.int .i64)))), (13, (.dat (.slice (.int .i64)))), (14, (.dat (.slice (.int .i64)))), (15, (.dat (.int .i64))), (25, (.dat (.int .i64)))], round := none, defers := [] }], heap := [(80009, .box (.dat tSe) false)] }, { key := (0, 8, 28, 1), frs := [{ fn := 8, n := 251, regs := [(9, (.ptr 80009 [])), (10, (.dat (.slice (.int .i64)))), (13, (.dat (.slice (.int .i64)))), (28, (.ptr 80028 [])), (29, (.dat (.int .i64))), (30, (.dat (.int .i64)))], round := none, defers := [] }], heap := [(80009, .box (.dat tSe) false), (80028, .box (.dat tSp) false)] }, { key := (0, 8, 35, 1), frs := [{ fn := 8, n := 251, regs := [(31, (.ptr 80031 [])), (32, (.dat (.int .i64))), (33, (.dat (.slice (.int .i64)))), (34, (.dat (.int .i64)))], round := none, defers := [] }], heap := [(80031, .box (.dat tSp) false)] }]
noncomputable def K8_0 : Kept := { todos := [[.inLoop (cAt Tryd.f8 [1, 1, 1, 1, 1, 1, 0, 1, 0, 0]), .inBlock 0, .code (cAt Tryd.f8 [1, 1, 1, 1, 1, 1, 1])]], cs := [noCodes] }
noncomputable def K8_1 : Kept := { todos := [[.inLoop (cAt Tryd.f8 [1, 1, 1, 1, 1, 1, 0, 1, 0, 0, 1, 0, 0, 1, 1, 1, 1, 1, 1, 1, 0, 0]), .inBlock 2, .inBlock 1, .code (cAt Tryd.f8 [1, 1, 1, 1, 1, 1, 0, 1, 0, 0, 1, 1]), .inLoop (cAt Tryd.f8 [1, 1, 1, 1, 1, 1, 0, 1, 0, 0]), .inBlock 0, .code (cAt Tryd.f8 [1, 1, 1, 1, 1, 1, 1])]], cs := [noCodes] }
noncomputable def K8_2 : Kept := { todos := [[.inLoop (cAt Tryd.f8 [1, 1, 1, 1, 1, 1, 1, 1, 0, 1, 0, 0]), .inBlock 4, .code (cAt Tryd.f8 [1, 1, 1, 1, 1, 1, 1, 1, 1])]], cs := [noCodes, noCodes] }
noncomputable def K8_3 : Kept := { todos := [[.inLoop (cAt Tryd.f8 [1, 1, 1, 1, 1, 1, 1, 1, 1, 1, 1, 0, 1, 0, 0]), .inBlock 6, .code (cAt Tryd.f8 [1, 1, 1, 1, 1, 1, 1, 1, 1, 1, 1, 1])]], cs := [noCodes] }
abbrev GT8 : Type := (n : Nat) → Kept → denK (specAt S8 n) → Option (denL [.bool])
theorem E8 (G : GT8) (t0 : Se) (t1 : (List Int)) (t2 : (List Int)) : enter cx58 S8 [.bool] 6000 some G 8 [tSe, (.slice (.int .u8)), (.slice (.int .u8))] (t0, (t1, (t2, ()))) =
  Option.bind (F38 (t0, ())) fun (y : Bool × Unit) =>
 bif !Prod.fst y then Option.bind (F33 (t0, ())) fun (y : List Int × Int × Unit) => bif Prod.fst (Prod.snd y) != 0 then Option.bind (F23 ()) fun (y : Bool × Unit) => some (Prod.fst y, ()) else some (false, ())
 else
  Option.bind (F39 (t0, t1, t2, ())) fun (y : Se × List Int × Unit) =>
   Option.bind (F33 (Prod.fst y, ())) fun (y_1 : List Int × Int × Unit) =>
    bif Prod.fst (Prod.snd y_1) != 0 then some (false, ()) else bif decide ((↑(List.length (Prod.fst y_1)) : Int) > 0) then some (false, ()) else Option.bind (F40 (Prod.fst (Prod.snd y), ())) fun (y_2 : List Int × Unit) => Option.bind (F41 (Prod.fst (Prod.snd y), ())) fun (y_3 : List Int × Unit) => G 0 K8_0 ((((), Prod.fst (Prod.snd y), Prod.fst y_2, Prod.fst y_3, 0, ()), ()), Prod.fst y, ()) := by kernel_rfl
theorem Q8_0 (G : GT8) (t10 : (List Int)) (t13 : (List Int)) (t14 : (List Int)) (t15 : Int) (h0 : Se) : seg cx58 S8 [.bool] 6000 some G 0 K8_0 ((((), (t10, (t13, (t14, (t15, ()))))), ()), (h0, ())) =
  bif decide (t15 < (↑(List.length t10) : Int)) then
 Option.bind (F19 (h0, t15, ())) fun (y : Sp × Int × Unit) =>
  Option.bind (F24 (h0, t15, ())) fun (y_1 : Int × Int × Int × Unit) =>
   Option.bind (F21 (h0, 0, t15, ())) fun (y_2 : Sp × Sp × Int × Unit) =>
    bif Prod.fst (Prod.snd y) != 0 then some (false, ())
    else
     bif Prod.fst (Prod.snd (Prod.snd y_1)) != 0 then some (false, ())
     else
      bif Prod.fst (Prod.snd (Prod.snd y_2)) != 0 then some (false, ())
      else
       bif decide (0 ≤ t15) && decide (t15 < (↑(List.length t10) : Int)) then
        Option.bind (F42 (List.getD t10 (Int.toNat t15) 0, Prod.fst y, ())) fun (y : Bool × Unit) =>
         bif !Prod.fst y then some (false, ())
         else
          Option.bind (F44 (t13, t15, ())) fun (y : Bool × Unit) =>
           Option.bind (F43 (Prod.fst y_1, Prod.fst y, ())) fun (y : Bool × Unit) =>
            bif Prod.fst y then some (false, ())
            else
             Option.bind (F44 (t14, t15, ())) fun (y : Bool × Unit) =>
              Option.bind (F43 (Prod.fst (Prod.snd y_1), Prod.fst y, ())) fun (y : Bool × Unit) =>
               bif Prod.fst y then some (false, ())
               else
                Option.bind (F45 (Prod.fst y_2, ())) fun (y : Bool × Unit) =>
                 bif !Prod.fst y then some (false, ())
                 else
                  Option.bind (F45 (Prod.fst (Prod.snd y_2), ())) fun (y : Bool × Unit) =>
                   bif !Prod.fst y then some (false, ())
                   else
                    Option.bind (F47 (t10, 0, t15, ())) fun (y : Int × Unit) =>
                     Option.bind (F46 (Prod.fst y, IntKind.wrap IntKind.i64 (t15 + 1), ())) fun (y : Sp × Unit) =>
                      Option.bind (F48 (Prod.fst y, Prod.fst y_2, ())) fun (y_3 : Bool × Unit) => bif Prod.fst y_3 then some (false, ()) else Option.bind (F48 (Prod.fst (Prod.snd y_2), Prod.fst y, ())) fun (y : Bool × Unit) => bif Prod.fst y then some (false, ()) else G 1 K8_1 ((((), t10, t13, t14, t15, 0, ()), ()), h0, ())
       else none
 else Option.bind (F26 (h0, ())) fun (y : Sp × Int × Unit) => G 2 K8_2 ((((), t10, t13, (), Prod.fst (Prod.snd y), 1, ()), ()), h0, Prod.fst y, ()) := by kernel_rfl
theorem Q8_1 (G : GT8) (t10 : (List Int)) (t13 : (List Int)) (t14 : (List Int)) (t15 : Int) (t25 : Int) (h0 : Se) : seg cx58 S8 [.bool] 6000 some G 1 K8_1 ((((), (t10, (t13, (t14, (t15, (t25, ())))))), ()), (h0, ())) =
  bif decide (t25 ≤ 2) then
 bif decide (0 ≤ t15) && decide (t15 < (↑(List.length t10) : Int)) then
  bif decide (0 ≤ t15) && decide (t15 < (↑(List.length t10) : Int)) then
   Option.bind (F36 (List.getD t10 (Int.toNat t15) 0, List.getD t10 (Int.toNat t15) 0, ())) fun (y : Sp × Unit) =>
    Option.bind (F30 (h0, Prod.fst y, t25, ())) fun (y : List Int × Int × Unit) =>
     bif Prod.fst (Prod.snd y) != 0 then some (false, ())
     else
      bif decide (0 ≤ t15) && decide (t15 < (↑(List.length t10) : Int)) then
       bif decide (0 ≤ t15) && decide (t15 < (↑(List.length t10) : Int)) then
        Option.bind (F36 (List.getD t10 (Int.toNat t15) 0, List.getD t10 (Int.toNat t15) 0, ())) fun (y_1 : Sp × Unit) =>
         Option.bind (F49 (t10, t15, Prod.fst y_1, t25, ())) fun (y_2 : Bool × Unit) =>
          bif Prod.fst y_2 then Option.bind (F44 (Prod.fst y, t15, ())) fun (y : Bool × Unit) => bif !Prod.fst y then some (false, ()) else G 1 K8_1 ((((), t10, t13, t14, t15, IntKind.wrap IntKind.i64 (t25 + 1), ()), ()), h0, ()) else G 1 K8_1 ((((), t10, t13, t14, t15, IntKind.wrap IntKind.i64 (t25 + 1), ()), ()), h0, ())
       else none
      else none
  else none
 else none
 else G 0 K8_0 ((((), t10, t13, t14, IntKind.wrap IntKind.i64 (t15 + 1), ()), ()), h0, ()) := by kernel_rfl
theorem Q8_2 (G : GT8) (t10 : (List Int)) (t13 : (List Int)) (t29 : Int) (t30 : Int) (h0 : Se) (h1 : Sp) : seg cx58 S8 [.bool] 6000 some G 2 K8_2 ((((), (t10, (t13, ((), (t29, (t30, ())))))), ()), (h0, (h1, ()))) =
  bif decide (t30 < (↑(List.length t13) : Int)) then
 bif t29 != 0 then some (false, ())
 else
  bif decide (0 ≤ t30) && decide (t30 < (↑(List.length t13) : Int)) then
   bif decide (0 ≤ IntKind.wrap IntKind.i64 (t30 - 1)) && decide (IntKind.wrap IntKind.i64 (t30 - 1) < (↑(List.length t13) : Int)) then
    Option.bind (F42 (IntKind.wrap IntKind.i64 (List.getD t13 (Int.toNat t30) 0 - List.getD t13 (Int.toNat (IntKind.wrap IntKind.i64 (t30 - 1))) 0), h1, ())) fun (y : Bool × Unit) => bif !Prod.fst y then some (false, ()) else G 2 K8_2 ((((), t10, t13, (), t29, IntKind.wrap IntKind.i64 (t30 + 1), ()), ()), h0, h1, ())
   else none
  else none
 else Option.bind (F28 (h0, ())) fun (y : Sp × Int × Unit) => Option.bind (F50 (t10, Prod.fst (Prod.snd (Prod.snd h0)), ())) fun (y_1 : List Int × Unit) => G 3 K8_3 ((((), Prod.fst (Prod.snd y), Prod.fst y_1, 0, ()), ()), Prod.fst y, ()) := by kernel_rfl
theorem Q8_3 (G : GT8) (t32 : Int) (t33 : (List Int)) (t34 : Int) (h0 : Sp) : seg cx58 S8 [.bool] 6000 some G 3 K8_3 ((((), (t32, (t33, (t34, ())))), ()), (h0, ())) =
  bif decide (t34 < (↑(List.length t33) : Int)) then bif t32 != 0 then some (false, ()) else bif decide (0 ≤ t34) && decide (t34 < (↑(List.length t33) : Int)) then Option.bind (F42 (List.getD t33 (Int.toNat t34) 0, h0, ())) fun (y : Bool × Unit) => bif !Prod.fst y then some (false, ()) else G 3 K8_3 ((((), t32, t33, IntKind.wrap IntKind.i64 (t34 + 1), ()), ()), h0, ()) else none
 else Option.bind (F23 ()) fun (y : Bool × Unit) => some (Prod.fst y, ()) := by kernel_rfl
noncomputable def F8 : denL [tSe, (.slice (.int .u8)), (.slice (.int .u8))] → Option (denL [.bool]) := ghost cx58 S8 6000 8 [tSe, (.slice (.int .u8)), (.slice (.int .u8))] [.bool]
noncomputable abbrev T8_0 (t10 : (List Int)) (t13 : (List Int)) (t14 : (List Int)) (t15 : Int) (h0 : Se) (f : Nat) : Option (denL [.bool]) := iter cx58 S8 [.bool] 6000 f 0 K8_0 ((((), (t10, (t13, (t14, (t15, ()))))), ()), (h0, ()))
theorem U8_0 (t10 : (List Int)) (t13 : (List Int)) (t14 : (List Int)) (t15 : Int) (h0 : Se) {y : denL [.bool]} (h : Ev fun k => seg cx58 S8 [.bool] 6000 some (iter cx58 S8 [.bool] 6000 k) 0 K8_0 ((((), (t10, (t13, (t14, (t15, ()))))), ()), (h0, ())) = some y) : Ev fun k => T8_0 t10 t13 t14 t15 h0 k = some y := iter_ev h
noncomputable abbrev T8_1 (t10 : (List Int)) (t13 : (List Int)) (t14 : (List Int)) (t15 : Int) (t25 : Int) (h0 : Se) (f : Nat) : Option (denL [.bool]) := iter cx58 S8 [.bool] 6000 f 1 K8_1 ((((), (t10, (t13, (t14, (t15, (t25, ())))))), ()), (h0, ()))
theorem U8_1 (t10 : (List Int)) (t13 : (List Int)) (t14 : (List Int)) (t15 : Int) (t25 : Int) (h0 : Se) {y : denL [.bool]} (h : Ev fun k => seg cx58 S8 [.bool] 6000 some (iter cx58 S8 [.bool] 6000 k) 1 K8_1 ((((), (t10, (t13, (t14, (t15, (t25, ())))))), ()), (h0, ())) = some y) : Ev fun k => T8_1 t10 t13 t14 t15 t25 h0 k = some y := iter_ev h
noncomputable abbrev T8_2 (t10 : (List Int)) (t13 : (List Int)) (t29 : Int) (t30 : Int) (h0 : Se) (h1 : Sp) (f : Nat) : Option (denL [.bool]) := iter cx58 S8 [.bool] 6000 f 2 K8_2 ((((), (t10, (t13, ((), (t29, (t30, ())))))), ()), (h0, (h1, ())))
theorem U8_2 (t10 : (List Int)) (t13 : (List Int)) (t29 : Int) (t30 : Int) (h0 : Se) (h1 : Sp) {y : denL [.bool]} (h : Ev fun k => seg cx58 S8 [.bool] 6000 some (iter cx58 S8 [.bool] 6000 k) 2 K8_2 ((((), (t10, (t13, ((), (t29, (t30, ())))))), ()), (h0, (h1, ()))) = some y) : Ev fun k => T8_2 t10 t13 t29 t30 h0 h1 k = some y := iter_ev h
noncomputable abbrev T8_3 (t32 : Int) (t33 : (List Int)) (t34 : Int) (h0 : Sp) (f : Nat) : Option (denL [.bool]) := iter cx58 S8 [.bool] 6000 f 3 K8_3 ((((), (t32, (t33, (t34, ())))), ()), (h0, ()))
theorem U8_3 (t32 : Int) (t33 : (List Int)) (t34 : Int) (h0 : Sp) {y : denL [.bool]} (h : Ev fun k => seg cx58 S8 [.bool] 6000 some (iter cx58 S8 [.bool] 6000 k) 3 K8_3 ((((), (t32, (t33, (t34, ())))), ()), (h0, ())) = some y) : Ev fun k => T8_3 t32 t33 t34 h0 k = some y := iter_ev h
theorem R8_0 (t10 : (List Int)) (t13 : (List Int)) (t14 : (List Int)) (t15 : Int) (h0 : Se) {y : denL [.bool]} (h : Ev fun k =>
 (bif decide (t15 < (↑(List.length t10) : Int)) then
 Option.bind (F19 (h0, t15, ())) fun (y : Sp × Int × Unit) =>
   Option.bind (F24 (h0, t15, ())) fun (y_1 : Int × Int × Int × Unit) =>
    Option.bind (F21 (h0, 0, t15, ())) fun (y_2 : Sp × Sp × Int × Unit) =>
     bif Prod.fst (Prod.snd y) != 0 then some (false, ())
     else
      bif Prod.fst (Prod.snd (Prod.snd y_1)) != 0 then some (false, ())
      else
       bif Prod.fst (Prod.snd (Prod.snd y_2)) != 0 then some (false, ())
       else
        bif decide (0 ≤ t15) && decide (t15 < (↑(List.length t10) : Int)) then
         Option.bind (F42 (List.getD t10 (Int.toNat t15) 0, Prod.fst y, ())) fun (y : Bool × Unit) =>
          bif !Prod.fst y then some (false, ())
          else
           Option.bind (F44 (t13, t15, ())) fun (y : Bool × Unit) =>
            Option.bind (F43 (Prod.fst y_1, Prod.fst y, ())) fun (y : Bool × Unit) =>
             bif Prod.fst y then some (false, ())
             else
              Option.bind (F44 (t14, t15, ())) fun (y : Bool × Unit) =>
               Option.bind (F43 (Prod.fst (Prod.snd y_1), Prod.fst y, ())) fun (y : Bool × Unit) =>
                bif Prod.fst y then some (false, ())
                else
                 Option.bind (F45 (Prod.fst y_2, ())) fun (y : Bool × Unit) =>
                  bif !Prod.fst y then some (false, ())
                  else
                   Option.bind (F45 (Prod.fst (Prod.snd y_2), ())) fun (y : Bool × Unit) =>
                    bif !Prod.fst y then some (false, ())
                    else
                     Option.bind (F47 (t10, 0, t15, ())) fun (y : Int × Unit) =>
                      Option.bind (F46 (Prod.fst y, IntKind.wrap IntKind.i64 (t15 + 1), ())) fun (y : Sp × Unit) =>
                       Option.bind (F48 (Prod.fst y, Prod.fst y_2, ())) fun (y_3 : Bool × Unit) => bif Prod.fst y_3 then some (false, ()) else Option.bind (F48 (Prod.fst (Prod.snd y_2), Prod.fst y, ())) fun (y : Bool × Unit) => bif Prod.fst y then some (false, ()) else T8_1 t10 t13 t14 t15 0 h0 k
        else none
 else Option.bind (F26 (h0, ())) fun (y : Sp × Int × Unit) => T8_2 t10 t13 (Prod.fst (Prod.snd y)) 1 h0 (Prod.fst y) k : Option (denL [.bool])) = some y) : Ev fun k => T8_0 t10 t13 t14 t15 h0 k = some y := U8_0 _ _ _ _ _ (Ev.eq (fun _ => Q8_0 _ _ _ _ _ _) h)
theorem R8_1 (t10 : (List Int)) (t13 : (List Int)) (t14 : (List Int)) (t15 : Int) (t25 : Int) (h0 : Se) {y : denL [.bool]} (h : Ev fun k =>
 (bif decide (t25 ≤ 2) then
 bif decide (0 ≤ t15) && decide (t15 < (↑(List.length t10) : Int)) then
   bif decide (0 ≤ t15) && decide (t15 < (↑(List.length t10) : Int)) then
    Option.bind (F36 (List.getD t10 (Int.toNat t15) 0, List.getD t10 (Int.toNat t15) 0, ())) fun (y : Sp × Unit) =>
     Option.bind (F30 (h0, Prod.fst y, t25, ())) fun (y : List Int × Int × Unit) =>
      bif Prod.fst (Prod.snd y) != 0 then some (false, ())
      else
       bif decide (0 ≤ t15) && decide (t15 < (↑(List.length t10) : Int)) then
        bif decide (0 ≤ t15) && decide (t15 < (↑(List.length t10) : Int)) then
         Option.bind (F36 (List.getD t10 (Int.toNat t15) 0, List.getD t10 (Int.toNat t15) 0, ())) fun (y_1 : Sp × Unit) =>
          Option.bind (F49 (t10, t15, Prod.fst y_1, t25, ())) fun (y_2 : Bool × Unit) =>
           bif Prod.fst y_2 then Option.bind (F44 (Prod.fst y, t15, ())) fun (y : Bool × Unit) => bif !Prod.fst y then some (false, ()) else T8_1 t10 t13 t14 t15 (IntKind.wrap IntKind.i64 (t25 + 1)) h0 k else T8_1 t10 t13 t14 t15 (IntKind.wrap IntKind.i64 (t25 + 1)) h0 k
        else none
       else none
   else none
 else none
 else T8_0 t10 t13 t14 (IntKind.wrap IntKind.i64 (t15 + 1)) h0 k : Option (denL [.bool])) = some y) : Ev fun k => T8_1 t10 t13 t14 t15 t25 h0 k = some y := U8_1 _ _ _ _ _ _ (Ev.eq (fun _ => Q8_1 _ _ _ _ _ _ _) h)
theorem R8_2 (t10 : (List Int)) (t13 : (List Int)) (t29 : Int) (t30 : Int) (h0 : Se) (h1 : Sp) {y : denL [.bool]} (h : Ev fun k =>
 (bif decide (t30 < (↑(List.length t13) : Int)) then
 bif t29 != 0 then some (false, ())
 else
   bif decide (0 ≤ t30) && decide (t30 < (↑(List.length t13) : Int)) then
    bif decide (0 ≤ IntKind.wrap IntKind.i64 (t30 - 1)) && decide (IntKind.wrap IntKind.i64 (t30 - 1) < (↑(List.length t13) : Int)) then
     Option.bind (F42 (IntKind.wrap IntKind.i64 (List.getD t13 (Int.toNat t30) 0 - List.getD t13 (Int.toNat (IntKind.wrap IntKind.i64 (t30 - 1))) 0), h1, ())) fun (y : Bool × Unit) => bif !Prod.fst y then some (false, ()) else T8_2 t10 t13 t29 (IntKind.wrap IntKind.i64 (t30 + 1)) h0 h1 k
    else none
   else none
 else Option.bind (F28 (h0, ())) fun (y : Sp × Int × Unit) => Option.bind (F50 (t10, Prod.fst (Prod.snd (Prod.snd h0)), ())) fun (y_1 : List Int × Unit) => T8_3 (Prod.fst (Prod.snd y)) (Prod.fst y_1) 0 (Prod.fst y) k : Option (denL [.bool])) = some y) : Ev fun k => T8_2 t10 t13 t29 t30 h0 h1 k = some y := U8_2 _ _ _ _ _ _ (Ev.eq (fun _ => Q8_2 _ _ _ _ _ _ _) h)
theorem R8_3 (t32 : Int) (t33 : (List Int)) (t34 : Int) (h0 : Sp) {y : denL [.bool]} (h : Ev fun k =>
 (bif decide (t34 < (↑(List.length t33) : Int)) then bif t32 != 0 then some (false, ()) else bif decide (0 ≤ t34) && decide (t34 < (↑(List.length t33) : Int)) then Option.bind (F42 (List.getD t33 (Int.toNat t34) 0, h0, ())) fun (y : Bool × Unit) => bif !Prod.fst y then some (false, ()) else T8_3 t32 t33 (IntKind.wrap IntKind.i64 (t34 + 1)) h0 k else none
 else Option.bind (F23 ()) fun (y : Bool × Unit) => some (Prod.fst y, ()) : Option (denL [.bool])) = some y) : Ev fun k => T8_3 t32 t33 t34 h0 k = some y := U8_3 _ _ _ _ (Ev.eq (fun _ => Q8_3 _ _ _ _ _) h)
theorem N8 (t0 : Se) (t1 : (List Int)) (t2 : (List Int)) {y : denL [.bool]} (h : Ev fun k =>
 (Option.bind (F38 (t0, ())) fun (y : Bool × Unit) =>
 bif !Prod.fst y then Option.bind (F33 (t0, ())) fun (y : List Int × Int × Unit) => bif Prod.fst (Prod.snd y) != 0 then Option.bind (F23 ()) fun (y : Bool × Unit) => some (Prod.fst y, ()) else some (false, ())
 else
   Option.bind (F39 (t0, t1, t2, ())) fun (y : Se × List Int × Unit) =>
    Option.bind (F33 (Prod.fst y, ())) fun (y_1 : List Int × Int × Unit) =>
     bif Prod.fst (Prod.snd y_1) != 0 then some (false, ()) else bif decide ((↑(List.length (Prod.fst y_1)) : Int) > 0) then some (false, ()) else Option.bind (F40 (Prod.fst (Prod.snd y), ())) fun (y_2 : List Int × Unit) => Option.bind (F41 (Prod.fst (Prod.snd y), ())) fun (y_3 : List Int × Unit) => T8_0 (Prod.fst (Prod.snd y)) (Prod.fst y_2) (Prod.fst y_3) 0 (Prod.fst y) k : Option (denL [.bool])) = some y) : F8 (t0, (t1, (t2, ()))) = some y := ghost_eq (Ev.eq (fun _ => E8 _ _ _ _) h)
end Go.Proofs.YtkbephbhajplhaaDoor
/- CycleTrue: what is so is not denied. Conditions: none. -/
namespace Go.Proofs.YtkbephbhajplhaaDoor
open Go Go.Gh Go.Proofs Go.Few
theorem wrong_none {s : Se} (h : Alv s) : wrongP s = ([], 0, ()) := by
 have h0 := (chkP_ok s).2 h.ok
 have hok : okW s [] = true := by
  unfold okW
  rw [decide_eq_true_eq]
  exact fun e => h.some ((truths_none h.ok).1 e)
 rcases wrong_best h0 with ⟨r, e, hb⟩ | ⟨_, hn⟩
 ·have := hb.first [] ⟨List.nil_sublist _, hok⟩
  cases r with
  | nil => exact e
  | cons a r => exact absurd (.inl (by simp)) this
 ·rw [hn [] (List.nil_sublist _)] at hok; cases hok
theorem gapsL_get : ∀ {T : List Nat} {i : Nat} (h : i + 1 < T.length), ((T[i + 1] : Nat) : Int) - (T[i] : Nat) ∈ gapsL T
 | [], _, h => by simp at h
 | [_], _, h => by simp at h
 | a :: b :: r, 0, _ => by simp [gapsL]
 | a :: b :: r, i + 1, h => by
  simp only [gapsL, List.getElem_cons_succ, List.mem_cons]
  exact .inr (gapsL_get (T := b :: r) (by simpa using h))
theorem Alv.next_in {s : Se} (h : Alv s) {t : List Int} (ht : t ∈ truthsR s 0) {v : Int} (hv : v ∈ nextsL s t) : (nextP s).2.1 = 0 ∧ inGap (nextP s).1 v = true := by
 have hm : v ∈ nextsR s := by unfold nextsR; exact List.mem_flatMap.2 ⟨t, ht, hv⟩
 rw [h.next]
 rcases spanH h.nextsR_bd with ⟨e, _⟩ | ⟨x, e, hh⟩
 ·rw [e] at hm; simp at hm
 ·rw [e]
  refine ⟨rfl, ?_⟩
  have := hh.all v hm
  unfold inGap
  rw [dec_t this.1, dec_t this.2]; rfl
theorem set_denies {R : List (List Int)} {p : List Int → Bool} {t : List Int} (ht : t ∈ R) : ((setB R p == 1 && !p t) || (setB R p == 2 && p t)) = false := by
 have hR : R ≠ [] := fun e => by rw [e] at ht; simp at ht
 rw [Bool.or_eq_false_iff]
 constructor
 ·cases h : (setB R p == 1) with
  | false => rfl
  | true => rw [setB_must.1 (beq_iff_eq.1 h) t ht]; rfl
 ·cases h : (setB R p == 2) with
  | false => rfl
  | true => rw [(setB_never hR).1 (beq_iff_eq.1 h) t ht]; rfl
theorem L8_t (z : Se) (h : Alv z) (l : List Int) (hl : l ∈ truthsR z 0) : Ev fun k => T8_0 l (numsL (isTop l.length l) l.length) (numsL (isBot l.length l) l.length) 0 z k = some (true, ()) := by
 have h7 := h.ok.hi
 have h3 := h.ok.lo
 have hw := h.wf hl
 have hn := hw.1
 have k1 := numsL_len (isTop l.length l) l.length
 have k2 := numsL_len (isBot l.length l) l.length
 have nx : ∀ (c i : Nat), i + c = (nextsL z l).length → Ev fun k => T8_3 (nextP z).2.1 (nextsL z l) (i : Int) (nextP z).1 k = some (true, ()) := by
  intro c
  induction c with
  | zero =>
   intro i hi
   refine R8_3 _ _ _ _ ?_
   rw [dec_f (by omega), L23]
   exact Ev.all fun _ => rfl
  | succ c ih =>
   intro i hi
   have hlt : i < (nextsL z l).length := by omega
   have hb := (nexts_bd h.ok hn).1
   obtain ⟨e1, e2⟩ := h.next_in hl (List.getElem_mem hlt)
   refine R8_3 _ _ _ _ ?_
   have ih := ih (i + 1) (by omega)
   rw [dec_t (show (i : Int) < ((nextsL z l).length : Int) by omega), dec_t (show (0 : Int) ≤ (i : Int) by omega), Int.toNat_natCast, getD_lt hlt, L42, e2, wrap_succ (n := i) (by omega)]
   rw [e1] at ih ⊢
   exact ih
 have gp : ∀ (c i : Nat), i + 1 + c = (topsFrom l.length l 0).length ∨ (i = 0 ∧ c = 0 ∧ (topsFrom l.length l 0).length = 0) → Ev fun k => T8_2 l ((topsFrom l.length l 0).map fun v : Nat => (v : Int)) (gapsP z).2.1 ((i + 1 : Nat) : Int) z (gapsP z).1 k = some (true, ()) := by
  have ht := tops_len l.length l
  intro c
  induction c with
  | zero =>
   intro i hi
   refine R8_2 _ _ _ _ _ _ ?_
   rw [List.length_map, dec_f (by omega), L28, L50 z h.ok l hn]
   simp only [cond_false, Option.bind_some]
   exact nx (nextsL z l).length 0 (by omega)
  | succ c ih =>
   intro i hi
   have hlt : i + 1 < (topsFrom l.length l 0).length := by omega
   have ih := ih (i + 1) (by omega)
   obtain ⟨e1, e2'⟩ := h.gap_in hl (v := (((topsFrom l.length l 0)[i + 1] : Nat) - ((topsFrom l.length l 0)[i] : Nat) : Int)) (by
    have := gapsL_get hlt
    rwa [show topsFrom z.1.length l 0 = topsFrom l.length l 0 by rw [hn]])
   have b1 := tops_lt (List.getElem_mem hlt)
   have b2 := tops_lt (List.getElem_mem (show i < (topsFrom l.length l 0).length by omega))
   refine R8_2 _ _ _ _ _ _ ?_
   rw [List.length_map, dec_t (show ((i + 1 : Nat) : Int) < ((topsFrom l.length l 0).length : Int) by omega), wrap_pred (n := i + 1) (by omega) (by omega), show i + 1 - 1 = i by omega, dec_t (show (0 : Int) ≤ ((i + 1 : Nat) : Int) by omega), dec_t (show (0 : Int) ≤ (i : Int) by omega), dec_t (show (i : Int) < ((topsFrom l.length l 0).length : Int) by omega), Int.toNat_natCast, Int.toNat_natCast, getD_lt (by rw [List.length_map]; exact hlt), getD_lt (by rw [List.length_map]; omega), List.getElem_map, List.getElem_map, wrap_succ (n := i + 1) (by omega)]
   rw [wrap_id (by omega) (by omega), L42]
   rw [e2']
   rw [e1] at ih ⊢
   exact ih
 have gp0 : Ev fun k => T8_2 l (numsL (isTop l.length l) l.length) (gapsP z).2.1 1 z (gapsP z).1 k = some (true, ()) := by
  rw [nums_tops]
  by_cases hz : (topsFrom l.length l 0).length = 0
  ·exact gp 0 0 (.inr ⟨rfl, rfl, hz⟩)
  ·exact gp ((topsFrom l.length l 0).length - 1) 0 (.inl (by omega))
 have yr : ∀ (c i : Nat), i + c = l.length → Ev fun k => T8_0 l (numsL (isTop l.length l) l.length) (numsL (isBot l.length l) l.length) (i : Int) z k = some (true, ()) := by
  intro c
  induction c with
  | zero =>
   intro i hi
   refine R8_0 _ _ _ _ _ ?_
   rw [dec_f (by omega), L26]
   exact gp0
  | succ c ih =>
   intro i hi
   have ih := ih (i + 1) (by omega)
   have hlt : i < l.length := by omega
   have sn : ∀ (d j : Nat), j + d = 3 → Ev fun k => T8_1 l (numsL (isTop l.length l) l.length) (numsL (isBot l.length l) l.length) (i : Int) (j : Int) z k = some (true, ()) := by
    intro d
    induction d with
    | zero =>
     intro j hj
     refine R8_1 _ _ _ _ _ _ ?_
     rw [dec_f (by omega), wrap_succ (n := i) (by omega)]
     exact ih
    | succ d ihd =>
     intro j hj
     have ihd := ihd (j + 1) (by omega)
     have hb := hw.2 _ (List.getElem_mem hlt)
     have hend : endsP (l[i], l[i], ()) 0 99 = 0 := endsP_zero.2 ⟨hb.1, Int.le_refl _, hb.2⟩
     refine R8_1 _ _ _ _ _ _ ?_
     rw [dec_t (show (j : Int) ≤ 2 by omega), dec_t (show (0 : Int) ≤ (i : Int) by omega), dec_t (show (i : Int) < (l.length : Int) by omega), Int.toNat_natCast, getD_lt hlt, L36, wrap_succ (n := j) (by omega)]
     simp only [Bool.and_self, cond_true, Option.bind_some]
     rw [L30, h.wreck _ (show j ≤ 2 by omega) hend, L49 l i _ j hlt (by omega) (by omega) hw.2]
     simp only [Option.bind_some, bne_self_eq_false, cond_false]
     cases hm : metAt (l[i], l[i], ()) j l i with
     | false => exact ihd
     | true =>
      have n1 := numsL_len (fun i => (truthsR z 0).any fun t => metAt (l[(i : Nat)]!, l[(i : Nat)]!, ()) j t i) z.1.length
      have n2 := numsL_len (fun q => (truthsR z 0).any fun t => metAt (l[i], l[i], ()) j t q) z.1.length
      have hin : (i : Int) ∈ numsL (fun q => (truthsR z 0).any fun t => metAt (l[i], l[i], ()) j t q) z.1.length := numsL_mem.2 ⟨i, by omega, List.any_eq_true.2 ⟨l, hl, hm⟩, rfl⟩
      simp only [cond_true]
      rw [L44 _ _ (by omega), dec_t hin]
      exact ihd
   refine R8_0 _ _ _ _ _ ?_
   have hv : turnsP z (i : Int) = (setB (truthsR z 0) (isTop z.1.length · i), setB (truthsR z 0) (isBot z.1.length · i), 0, ()) := h.turns (by omega)
   have hme := h.mean (a := 0) (b := i) (by omega) (by omega)
   have hone := (h.one (n := i) (by omega)).2.2.1 l hl
   obtain ⟨_, _, all, r1, r2, r3⟩ := h.nums 0 (q := i) (by omega)
   have hs0 := all l hl
   have hsb := h.sumbd hl 0 i
   have d1 : (1 : Int) ≤ ((i - 0 + 1 : Nat) : Int) ∧ ((i - 0 + 1 : Nat) : Int) ≤ 7 := by omega
   have o1 := low_ok (a := (numsP z 0 i).1) ⟨r1, by omega⟩ d1
   have o2 := low_ok (a := (numsP z 0 i).2.1) ⟨by omega, r3⟩ d1
   have o3 := low_ok (a := sumL l 0 i) hsb d1
   have f1 : ¬ ((lowP (sumL l 0 i) ((i - 0 + 1 : Nat) : Int)).1 * (lowP (numsP z 0 i).1 ((i - 0 + 1 : Nat) : Int)).2.1 < (lowP (numsP z 0 i).1 ((i - 0 + 1 : Nat) : Int)).1 * (lowP (sumL l 0 i) ((i - 0 + 1 : Nat) : Int)).2.1) := by
    rw [low_lt hsb d1 ⟨r1, by omega⟩ d1]
    exact Int.not_lt.2 (Int.mul_le_mul_of_nonneg_right hs0.1 (by omega))
   have f2 : ¬ ((lowP (numsP z 0 i).2.1 ((i - 0 + 1 : Nat) : Int)).1 * (lowP (sumL l 0 i) ((i - 0 + 1 : Nat) : Int)).2.1 < (lowP (sumL l 0 i) ((i - 0 + 1 : Nat) : Int)).1 * (lowP (numsP z 0 i).2.1 ((i - 0 + 1 : Nat) : Int)).2.1) := by
    rw [low_lt ⟨by omega, r3⟩ d1 hsb d1]
    exact Int.not_lt.2 (Int.mul_le_mul_of_nonneg_right hs0.2 (by omega))
   have hgi : inGap (numsP z i i) (l.getD i 0) = true := by unfold inGap; rw [dec_t hone.1, dec_t hone.2]; rfl
   have dT := set_denies (p := (isTop z.1.length · i)) hl
   have dB := set_denies (p := (isBot z.1.length · i)) hl
   rw [dec_t (show (i : Int) < (l.length : Int) by omega), dec_t (show (0 : Int) ≤ (i : Int) by omega), Int.toNat_natCast, L19, L24, show F21 ((z, 0, (i : Int), ()) : Se × Int × Int × Unit) = some (meanP z ((0 : Nat) : Int) (i : Int)) from L21 z 0 i, h.number (by omega), hv, hme, wrap_succ (n := i) (by omega)]
   simp only [Bool.and_self, cond_true, Option.bind_some, bne_self_eq_false, cond_false]
   rw [L42, hgi]
   simp only [Option.bind_some, Bool.not_true, cond_false]
   rw [L44 _ _ (by omega), mem_nums (fun j hj => isTop_end (by omega)), hn]
   simp only [Option.bind_some]
   rw [L43, dT]
   simp only [Option.bind_some, cond_false]
   rw [hn] at k2
   rw [L44 _ _ (by omega), mem_nums (fun j hj => isBot_end (by omega))]
   simp only [Option.bind_some]
   rw [L43, dB]
   simp only [Option.bind_some, cond_false]
   rw [L45 o1.1 o1.2.1, L45 o2.1 o2.2.1, show F47 ((l, 0, (i : Int), ()) : List Int × Int × Int × Unit) = some (sumL l 0 i, ()) from L47 l 0 i hlt (by omega) hw.2]
   simp only [Option.bind_some, Bool.not_true, cond_false]
   rw [show ((i + 1 : Nat) : Int) = ((i - 0 + 1 : Nat) : Int) by omega, L46' (by omega) (by omega)]
   simp only [Option.bind_some]
   rw [L48 o3.1 o3.2.1 o1.1 o1.2.1, dec_f f1, L48 o2.1 o2.2.1 o3.1 o3.2.1, dec_f f2]
   simp only [Option.bind_some, cond_false]
   rw [hn] at sn
   exact sn 3 0 rfl
 exact yr l.length 0 (by omega)
theorem L8 (s : Se) (x off : List Int) (hx : ∀ v ∈ x, 0 ≤ v ∧ v ≤ 255) (ho : ∀ v ∈ off, 0 ≤ v ∧ v ≤ 255) : F8 ((s, x, off, ()) : Se × List Int × List Int × Unit) = some (true, ()) := by
 refine N8 _ _ _ ?_
 rw [L38]
 simp only [Option.bind_some]
 by_cases h0 : (chkP s).2.2.1 = 0
 ·have hs := chk_zero h0
  have h := told_alv hs x off
  have hl := told_truth hs x off
  have h3 := hs.lo
  have h7 := hs.hi
  rw [h0, L39 s hs x off hx ho]
  simp only [beq_self_eq_true, Bool.not_true, cond_false, Option.bind_some]
  rw [L33, wrong_none h, L40 _ (by rw [toldL_len]; omega) (by rw [toldL_len]; omega), L41 _ (by rw [toldL_len]; omega) (by rw [toldL_len]; omega)]
  exact L8_t _ h _ hl
 ·have hv : wrongP s = ([], (chkP s).2.2.1, ()) := if_neg h0
  rw [show ((chkP s).2.2.1 == 0) = false from beq_eq_false_iff_ne.2 h0, L33, hv, L23]
  simp only [Bool.not_false, cond_true, Option.bind_some]
  rw [show ((chkP s).2.2.1 != 0) = true from bne_iff_ne.2 h0]
  exact Ev.all fun _ => by first | rfl | trivial
end Go.Proofs.YtkbephbhajplhaaDoor
