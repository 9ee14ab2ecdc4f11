/- States at the cuts. Conditions: none. -/
import Derived.Test.YtallblpnlefpeaaRoC
import Derived.Test.YtallblpnlefpeaaRoE
namespace Go.Proofs.Ytallblpnlefpeaa
open Go Go.Gh Go.Proofs
noncomputable abbrev T110_0 (t0 : Int) (t3 : Int) (t4 : Int) (f : Nat) : Option (denL [(.int .i64)]) := iter cx45 S110 [(.int .i64)] 6000 f 0 K110_0 (((t0, (t3, (t4, ()))), ()), ())
theorem U110_0 (t0 : Int) (t3 : Int) (t4 : Int) {y : denL [(.int .i64)]} (h : Ev fun k => seg cx45 S110 [(.int .i64)] 6000 some (iter cx45 S110 [(.int .i64)] 6000 k) 0 K110_0 (((t0, (t3, (t4, ()))), ()), ()) = some y) : Ev fun k => T110_0 t0 t3 t4 k = some y := iter_ev h
noncomputable abbrev T19_0 (t5 : Int) (h0 : Bk) (f : Nat) : Option (denL [(.int .i64), (.int .i64), (.int .i64)]) := iter cx83 S19 [(.int .i64), (.int .i64), (.int .i64)] 6000 f 0 K19_0 ((((), (t5, ())), ()), (h0, ()))
theorem U19_0 (t5 : Int) (h0 : Bk) {y : denL [(.int .i64), (.int .i64), (.int .i64)]} (h : Ev fun k => seg cx83 S19 [(.int .i64), (.int .i64), (.int .i64)] 6000 some (iter cx83 S19 [(.int .i64), (.int .i64), (.int .i64)] 6000 k) 0 K19_0 ((((), (t5, ())), ()), (h0, ())) = some y) : Ev fun k => T19_0 t5 h0 k = some y := iter_ev h
noncomputable abbrev T19_1 (t6 : Int) (h0 : Bk) (f : Nat) : Option (denL [(.int .i64), (.int .i64), (.int .i64)]) := iter cx83 S19 [(.int .i64), (.int .i64), (.int .i64)] 6000 f 1 K19_1 ((((), (t6, ())), ()), (h0, ()))
theorem U19_1 (t6 : Int) (h0 : Bk) {y : denL [(.int .i64), (.int .i64), (.int .i64)]} (h : Ev fun k => seg cx83 S19 [(.int .i64), (.int .i64), (.int .i64)] 6000 some (iter cx83 S19 [(.int .i64), (.int .i64), (.int .i64)] 6000 k) 1 K19_1 ((((), (t6, ())), ()), (h0, ())) = some y) : Ev fun k => T19_1 t6 h0 k = some y := iter_ev h
noncomputable abbrev T19_2 (t6 : Int) (t7 : Int) (h0 : Bk) (f : Nat) : Option (denL [(.int .i64), (.int .i64), (.int .i64)]) := iter cx83 S19 [(.int .i64), (.int .i64), (.int .i64)] 6000 f 2 K19_2 ((((), (t6, (t7, ()))), ()), (h0, ()))
theorem U19_2 (t6 : Int) (t7 : Int) (h0 : Bk) {y : denL [(.int .i64), (.int .i64), (.int .i64)]} (h : Ev fun k => seg cx83 S19 [(.int .i64), (.int .i64), (.int .i64)] 6000 some (iter cx83 S19 [(.int .i64), (.int .i64), (.int .i64)] 6000 k) 2 K19_2 ((((), (t6, (t7, ()))), ()), (h0, ())) = some y) : Ev fun k => T19_2 t6 t7 h0 k = some y := iter_ev h
noncomputable abbrev T44_0 (t1 : (List Int)) (t5 : Int) (h0_1 : (List (List Wy))) (h1 : Bk) (h2 : (List Rw)) (f : Nat) : Option (denL [tBk]) := iter cx26 S44 [tBk] 6000 f 0 K44_0 (((t1, ((), ((), (t5, ())))), ()), (((), (h0_1, ())), (h1, (h2, ()))))
theorem U44_0 (t1 : (List Int)) (t5 : Int) (h0_1 : (List (List Wy))) (h1 : Bk) (h2 : (List Rw)) {y : denL [tBk]} (h : Ev fun k => seg cx26 S44 [tBk] 6000 some (iter cx26 S44 [tBk] 6000 k) 0 K44_0 (((t1, ((), ((), (t5, ())))), ()), (((), (h0_1, ())), (h1, (h2, ())))) = some y) : Ev fun k => T44_0 t1 t5 h0_1 h1 h2 k = some y := iter_ev h
end Go.Proofs.Ytallblpnlefpeaa
/- Helpers of the reference: in, bit, the same lists, has, choices. Conditions: as each lemma states. (Texts of another chapter, turned to this one.) -/
namespace Go.Proofs.Ytallblpnlefpeaa
open Go Go.Gh Go.Proofs Go.Few
theorem L51 (n lo hi : Int) : F51 ((n, lo, hi, ()) : Int × Int × Int × Unit) = some (decide (lo ≤ n) && decide (n ≤ hi), ()) := by
 refine ghost_eq (Ev.eq (fun _ => E51 _ _ _ _) (Ev.all fun _ => ?_))
 cases decide (lo ≤ n) <;> rfl
theorem L27 (l p : List Int) (hl : l.length < 1000000) : F27 ((l, p, ()) : List Int × List Int × Unit) = some (decide (l = p), ()) := by
 refine ghost_eq (Ev.eq (fun _ => E27 _ _ _) ?_)
 by_cases hlen : l.length = p.length
 ·have e0 : ((l.length : Int) == (p.length : Int)) = true := beq_iff_eq.2 (by rw [hlen])
  rw [e0]
  have key : ∀ (e i : Nat), i + e = l.length → Ev fun f => iter cx40 S27 [.bool] 6000 f 0 K27_0 (((l, (p, (true, ((i : Int), ())))), ()), ()) = some (decide (l.drop i = p.drop i), ()) := by
   intro e
   induction e with
   | zero =>
    intro i hi
    refine iter_ev (Ev.eq (fun _ => Q27_0 _ _ _ _ _) ?_)
    rw [List.drop_eq_nil_of_le (by omega), List.drop_eq_nil_of_le (by omega)]
    simp only [cond_true, dec_f (show ¬ ((i : Int) < (l.length : Int)) by omega), cond_false]
    exact Ev.all fun _ => by simp
   | succ e ih =>
    intro i hi
    refine iter_ev (Ev.eq (fun _ => Q27_0 _ _ _ _ _) ?_)
    have h1 : i < l.length := by omega
    have h2 : i < p.length := by omega
    have wi : IntKind.wrap IntKind.i64 ((i : Int) + 1) = ((i + 1 : Nat) : Int) := by rw [wrap_id (by omega) (by omega)]; omega
    have hg : l.getD i 0 = l[i] := by simp [List.getD_eq_getElem?_getD, h1]
    have hg' : p.getD i 0 = p[i] := by simp [List.getD_eq_getElem?_getD, h2]
    simp only [cond_true, dec_t (show (i : Int) < (l.length : Int) by omega), dec_t (show (0 : Int) ≤ (i : Int) by omega), dec_t (show (i : Int) < (p.length : Int) by omega), Bool.and_self, Int.toNat_natCast, wi, hg, hg']
    rw [List.drop_eq_getElem_cons h1, List.drop_eq_getElem_cons h2]
    by_cases he : l[i] = p[i]
    ·have : (l[i] == p[i]) = true := by simpa using he
     rw [this]
     have := ih (i + 1) (by omega)
     have e3 : decide (l[i] :: l.drop (i + 1) = p[i] :: p.drop (i + 1)) = decide (l.drop (i + 1) = p.drop (i + 1)) := decide_eq_decide.2 ⟨fun h => (List.cons.inj h).2, fun h => by rw [he, h]⟩
     rw [e3]
     exact this
    ·have : (l[i] == p[i]) = false := by simpa using he
     rw [this]
     refine iter_ev (Ev.eq (fun _ => Q27_0 _ _ _ _ _) ?_)
     have e3 : decide (l[i] :: l.drop (i + 1) = p[i] :: p.drop (i + 1)) = false := decide_eq_false fun h => he (List.cons.inj h).1
     rw [e3]
     exact Ev.all fun _ => by first | rfl | trivial
  have := key l.length 0 (by omega)
  simpa using this
 ·have e0 : ((l.length : Int) == (p.length : Int)) = false := by simp; omega
  rw [e0]
  refine iter_ev (Ev.eq (fun _ => Q27_0 _ _ _ _ _) ?_)
  have : ¬ l = p := fun e => hlen (by rw [e])
  exact Ev.all fun _ => by simp [this]
end Go.Proofs.Ytallblpnlefpeaa
/- The reference: errors of a book, what a way makes. Conditions: as each lemma states. -/
namespace Go.Proofs.Ytallblpnlefpeaa
open Go Go.Gh Go.Proofs Go.Few
theorem L110 (m : Nat) (hm : m ≤ 20) : F110 (((m : Int), ()) : Int × Unit) = some (((2 ^ m - 1 : Nat) : Int), ()) := by
 refine ghost_eq (Ev.eq (fun _ => E110 _ _) ?_)
 have key : ∀ (c i : Nat), i + c = m → Ev fun k => T110_0 m ((2 ^ i - 1 : Nat) : Int) i k = some (((2 ^ m - 1 : Nat) : Int), ()) := by
  intro c
  induction c with
  | zero =>
   intro i hi
   obtain rfl : i = m := by omega
   refine U110_0 _ _ _ (Ev.eq (fun _ => Q110_0 _ _ _ _) ?_)
   rw [dec_f (by omega)]
   exact Ev.all fun _ => by first | rfl | trivial
  | succ c ih =>
   intro i hi
   refine U110_0 _ _ _ (Ev.eq (fun _ => Q110_0 _ _ _ _) ?_)
   have h := ih (i + 1) (by omega)
   have h1 : 1 ≤ 2 ^ i := Nat.one_le_two_pow
   have h2 : 2 ^ i ≤ 2 ^ 20 := Nat.pow_le_pow_right (by decide) (by omega)
   have e1 : IntKind.wrap IntKind.i64 (IntKind.wrap IntKind.i64 (2 * ((2 ^ i - 1 : Nat) : Int)) + 1) = ((2 ^ (i + 1) - 1 : Nat) : Int) := by
    rw [wrap_id (x := 2 * ((2 ^ i - 1 : Nat) : Int)) (by omega) (by omega), wrap_id (by omega) (by omega), Nat.pow_succ]
    omega
   rw [dec_t (show (i : Int) < (m : Int) by omega), wrap_succ (n := i) (by omega), e1]
   exact h
 exact key m 0 (by omega)
theorem L83 (b : Bk) (h8 : b.1.length ≤ 8) (i : Nat) (hi : i ≤ 8) (w : Wy) : F83 ((b, (i : Int), w, ()) : Bk × Int × Wy × Unit) = some (wayE b i w, ()) := by
 refine ghost_eq (Ev.eq (fun _ => E83 _ _ _ _) ?_)
 rw [L51, L110 _ (by omega), L110 _ (by omega)]
 simp only [Option.bind_some]
 rw [L51]
 simp only [Option.bind_some]
 rw [L51]
 simp only [Option.bind_some]
 unfold wayE
 by_cases c1 : w.1 < 0 ∨ 2 < w.1
 ·rw [if_pos c1, show (decide (0 ≤ w.1) && decide (w.1 ≤ 2)) = false by rw [Bool.and_eq_false_iff, decide_eq_false_iff_not, decide_eq_false_iff_not]; omega]
  exact Ev.all fun _ => by first | rfl | trivial
 ·rw [if_neg c1, dec_t (show 0 ≤ w.1 by omega), dec_t (show w.1 ≤ 2 by omega)]
  simp only [Bool.and_self, Bool.not_true, cond_false]
  by_cases c2 : w.2.1 < 0 ∨ ((2 ^ b.1.length - 1 : Nat) : Int) < w.2.1
  ·rw [if_pos (.inl c2), show (decide (0 ≤ w.2.1) && decide (w.2.1 ≤ ((2 ^ b.1.length - 1 : Nat) : Int))) = false by rw [Bool.and_eq_false_iff, decide_eq_false_iff_not, decide_eq_false_iff_not]; omega]
   exact Ev.all fun _ => by first | rfl | trivial
  ·rw [dec_t (show 0 ≤ w.2.1 by omega), dec_t (show w.2.1 ≤ ((2 ^ b.1.length - 1 : Nat) : Int) by omega)]
   simp only [Bool.and_self, Bool.not_true, cond_false]
   by_cases c3 : w.2.2.1 < 0 ∨ ((2 ^ i - 1 : Nat) : Int) < w.2.2.1
   ·rw [if_pos (.inr c3), show (decide (0 ≤ w.2.2.1) && decide (w.2.2.1 ≤ ((2 ^ i - 1 : Nat) : Int))) = false by rw [Bool.and_eq_false_iff, decide_eq_false_iff_not, decide_eq_false_iff_not]; omega]
    exact Ev.all fun _ => by first | rfl | trivial
   ·rw [if_neg (fun h => h.elim c2 c3), dec_t (show 0 ≤ w.2.2.1 by omega), dec_t (show w.2.2.1 ≤ ((2 ^ i - 1 : Nat) : Int) by omega)]
    simp only [Bool.and_self, Bool.not_true, cond_false]
    by_cases z1 : w.2.1 = 0
    ·by_cases z2 : w.2.2.1 = 0
     ·rw [if_pos ⟨z1, z2⟩, beq_iff_eq.2 z1, beq_iff_eq.2 z2]
      exact Ev.all fun _ => by first | rfl | trivial
     ·rw [if_neg (fun h => z2 h.2), beq_iff_eq.2 z1, beq_eq_false_iff_ne.2 z2]
      exact Ev.all fun _ => by first | rfl | trivial
    ·rw [if_neg (fun h => z1 h.1), beq_eq_false_iff_ne.2 z1]
     exact Ev.all fun _ => by first | rfl | trivial
theorem L19 (b : Bk) : F19 ((b, ()) : Bk × Unit) = some (chkP b) := by
 refine ghost_eq (Ev.eq (fun _ => E19 _ _) ?_)
 unfold chkP
 by_cases h8 : 8 < b.1.length
 ·rw [if_pos h8, dec_t (by omega)]
  exact Ev.all fun _ => by first | rfl | trivial
 ·rw [if_neg h8, dec_f (by omega)]
  simp only [cond_false]
  have ways : ∀ (y : denL [(.int .i64), (.int .i64), (.int .i64)]) (n : Nat), n < 6 → n < b.2.1.length → (b.2.1.getD n []).length ≤ 3 → (numE b n (b.2.1.getD n []) = none → Ev fun k => T19_1 ((n + 1 : Nat) : Int) b k = some y) → (∀ e, numE b n (b.2.1.getD n []) = some e → y = (2, (n : Int), e, ())) →
    ∀ (c j : Nat), j + c = (b.2.1.getD n []).length → numE b n ((b.2.1.getD n []).drop j) = numE b n (b.2.1.getD n []) → Ev fun k => T19_2 n j b k = some y := by
   intro y n hn hnl hwl hnone hsome c
   induction c with
   | zero =>
    intro j hj he
    refine U19_2 _ _ _ (Ev.eq (fun _ => Q19_2 _ _ _ _) ?_)
    rw [List.drop_eq_nil_of_le (by omega)] at he
    rw [Int.toNat_natCast, dec_t (show (0 : Int) ≤ (n : Int) by omega), dec_t (show (n : Int) < (b.2.1.length : Int) by omega), dec_f (show ¬ ((j : Int) < ((b.2.1.getD n []).length : Int)) by omega), wrap_succ (n := n) (by omega)]
    exact hnone he.symm
   | succ c ih =>
    intro j hj he
    refine U19_2 _ _ _ (Ev.eq (fun _ => Q19_2 _ _ _ _) ?_)
    have hlt : j < (b.2.1.getD n []).length := by omega
    rw [Int.toNat_natCast, Int.toNat_natCast, dec_t (show (0 : Int) ≤ (n : Int) by omega), dec_t (show (n : Int) < (b.2.1.length : Int) by omega), dec_t (show (j : Int) < ((b.2.1.getD n []).length : Int) by omega), dec_t (show (0 : Int) ≤ (j : Int) by omega), wrap_succ (n := j) (by omega), L83 b (by omega) n (by omega), getD_lt hlt]
    simp only [Bool.and_self, cond_true, Option.bind_some]
    rw [List.drop_eq_getElem_cons hlt, numE] at he
    by_cases h0 : wayE b n (b.2.1.getD n [])[j] = 0
    ·rw [if_pos h0] at he
     rw [h0]
     exact ih (j + 1) (by omega) he
    ·rw [if_neg h0] at he
     rw [bne_iff_ne.2 h0, hsome _ he.symm]
     exact Ev.all fun _ => by first | rfl | trivial
  have nums : ∀ (y : denL [(.int .i64), (.int .i64), (.int .i64)]), b.2.1.length ≤ 6 → y = endN (numsE b b.2.1 0) → ∀ (c n : Nat), n + c = b.2.1.length → numsE b (b.2.1.drop n) n = numsE b b.2.1 0 → Ev fun k => T19_1 n b k = some y := by
   intro y h6 hy c
   induction c with
   | zero =>
    intro n hn he
    refine U19_1 _ _ (Ev.eq (fun _ => Q19_1 _ _ _) ?_)
    rw [List.drop_eq_nil_of_le (by omega)] at he
    rw [dec_f (show ¬ ((n : Int) < (b.2.1.length : Int)) by omega), hy, ← he]
    exact Ev.all fun _ => by first | rfl | trivial
   | succ c ih =>
    intro n hn he
    refine U19_1 _ _ (Ev.eq (fun _ => Q19_1 _ _ _) ?_)
    have hlt : n < b.2.1.length := by omega
    have hih := ih (n + 1) (by omega)
    rw [dec_t (show (n : Int) < (b.2.1.length : Int) by omega), dec_t (show (0 : Int) ≤ (n : Int) by omega), Int.toNat_natCast, L51]
    simp only [Bool.and_self, cond_true, Option.bind_some]
    rw [List.drop_eq_getElem_cons hlt, numsE, ← getD_lt (z := []) hlt] at he
    by_cases hm : 1 ≤ (b.2.1.getD n []).length ∧ (b.2.1.getD n []).length ≤ 3
    ·rw [dec_t (show (1 : Int) ≤ ((b.2.1.getD n []).length : Int) by omega), dec_t (show ((b.2.1.getD n []).length : Int) ≤ 3 by omega)]
     rw [if_pos hm] at he
     refine ways y n (by omega) hlt hm.2 (fun hnone => ?_) (fun e hsome => ?_) (b.2.1.getD n []).length 0 (by omega) (by rw [List.drop_zero])
     ·rw [hnone] at he
      exact hih he
     ·rw [hsome] at he
      rw [hy, ← he]
      rfl
    ·rw [show (decide ((1 : Int) ≤ ((b.2.1.getD n []).length : Int)) && decide (((b.2.1.getD n []).length : Int) ≤ 3)) = false by rw [Bool.and_eq_false_iff, decide_eq_false_iff_not, decide_eq_false_iff_not]; omega, hy, ← he, if_neg hm]
     exact Ev.all fun _ => by first | rfl | trivial
  have rows : ∀ (c i : Nat), i + c = b.1.length → rowsE (b.1.drop i) i = rowsE b.1 0 → Ev fun k => T19_0 i b k = some (endR b (rowsE b.1 0)) := by
   intro c
   induction c with
   | zero =>
    intro i hi he
    refine U19_0 _ _ (Ev.eq (fun _ => Q19_0 _ _ _) ?_)
    rw [List.drop_eq_nil_of_le (by omega)] at he
    rw [dec_f (show ¬ ((i : Int) < (b.1.length : Int)) by omega), ← he]
    simp only [rowsE, endR, cond_false]
    by_cases h6 : 6 < b.2.1.length
    ·rw [if_pos h6, dec_t (by omega)]
     exact Ev.all fun _ => by first | rfl | trivial
    ·rw [if_neg h6, dec_f (by omega)]
     exact nums _ (by omega) rfl b.2.1.length 0 (by omega) (by rw [List.drop_zero])
   | succ c ih =>
    intro i hi he
    refine U19_0 _ _ (Ev.eq (fun _ => Q19_0 _ _ _) ?_)
    have hlt : i < b.1.length := by omega
    rw [List.drop_eq_getElem_cons hlt, rowsE] at he
    rw [dec_t (show (i : Int) < (b.1.length : Int) by omega), dec_t (show (0 : Int) ≤ (i : Int) by omega), wrap_succ (n := i) (by omega), Int.toNat_natCast, getD_lt hlt, L51]
    simp only [Bool.and_self, cond_true, Option.bind_some]
    by_cases hr : 0 ≤ b.1[i].1 ∧ b.1[i].1 ≤ 99
    ·rw [if_pos hr] at he
     rw [dec_t hr.1, dec_t hr.2]
     exact ih (i + 1) (by omega) he
    ·rw [if_neg hr] at he
     rw [show (decide (0 ≤ b.1[i].1) && decide (b.1[i].1 ≤ 99)) = false by rw [Bool.and_eq_false_iff, decide_eq_false_iff_not, decide_eq_false_iff_not]; omega, ← he]
     exact Ev.all fun _ => by first | rfl | trivial
  exact rows b.1.length 0 (by omega) (by rw [List.drop_zero])
end Go.Proofs.Ytallblpnlefpeaa
/- The reference: all numbers, Value, Clash. Conditions: as each lemma states. -/
namespace Go.Proofs.Ytallblpnlefpeaa
open Go Go.Gh Go.Proofs Go.Few
theorem stand_bit (b : Bk) (i : Nat) : (rowsN b).testBit i = (decide (i < b.1.length) && !(b.1.getD i rw0).2.1) := by
 unfold rowsN standL
 rw [bits_nums]
theorem any_congr' {α : Type} {p q : α → Bool} : ∀ {l : List α}, (∀ x ∈ l, p x = q x) → l.any p = l.any q
 | [], _ => rfl
 | x :: l, h => by rw [List.any_cons, List.any_cons, h x (List.mem_cons_self ..), any_congr' fun y hy => h y (List.mem_cons_of_mem _ hy)]
end Go.Proofs.Ytallblpnlefpeaa
/- The reference: all numbers, Value, Clash: as the program. Conditions: as each lemma states. -/
namespace Go.Proofs.Ytallblpnlefpeaa
open Go Go.Gh Go.Proofs Go.Few
theorem mem_bitL {n : Int} {k i : Nat} : i ∈ bitL n k ↔ i < k ∧ n.toNat.testBit i = true := by simp [bitL]
end Go.Proofs.Ytallblpnlefpeaa
