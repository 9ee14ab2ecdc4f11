/- States at the cuts. Conditions: none. -/
import Derived.Test.YtallblpnlefpeaaRoC
import Derived.Test.YtallblpnlefpeaaRoE
namespace Go.Proofs.Ytallblpnlefpeaa
open Go Go.Gh Go.Proofs
noncomputable abbrev T44_0 (t1 : (List Int)) (t5 : Int) (h0_1 : (List (List Wy))) (h1 : Bk) (h2 : (List Rw)) (f : Nat) : Option (denL [tBk]) := iter cx26 S44 [tBk] 6000 f 0 K44_0 (((t1, ((), ((), (t5, ())))), ()), (((), (h0_1, ())), (h1, (h2, ()))))
theorem U44_0 (t1 : (List Int)) (t5 : Int) (h0_1 : (List (List Wy))) (h1 : Bk) (h2 : (List Rw)) {y : denL [tBk]} (h : Ev fun k => seg cx26 S44 [tBk] 6000 some (iter cx26 S44 [tBk] 6000 k) 0 K44_0 (((t1, ((), ((), (t5, ())))), ()), (((), (h0_1, ())), (h1, (h2, ())))) = some y) : Ev fun k => T44_0 t1 t5 h0_1 h1 h2 k = some y := iter_ev h
end Go.Proofs.Ytallblpnlefpeaa
/- Helpers of the reference: in, bit, the same lists, has, choices. Conditions: as each lemma states. (Texts of another chapter, turned to this one.) -/
namespace Go.Proofs.Ytallblpnlefpeaa
open Go Go.Gh Go.Proofs Go.Few
theorem L27 (l p : List Int) (hl : l.length < 1000000) : F27 ((l, p, ()) : List Int × List Int × Unit) = some (decide (l = p), ()) := by
 refine ghost_eq (Ev.eq (fun _ => E27 _ _ _) ?_)
 by_cases hlen : l.length = p.length
 ·have e0 : ((l.length : Int) == (p.length : Int)) = true := beq_iff_eq.2 (by rw [hlen])
  rw [e0]
  have key : ∀ (e i : Nat), i + e = l.length → Ev fun f => iter cx40 S27 [.bool] 6000 f 0 K27_0 (((l, (p, (true, ((i : Int), ())))), ()), ()) = some (decide (l.drop i = p.drop i), ()) := by
   intro e
   induction e with
   | zero =>
    intro i hi
    refine iter_ev (Ev.eq (fun _ => Q27_0 _ _ _ _ _) ?_)
    rw [List.drop_eq_nil_of_le (by omega), List.drop_eq_nil_of_le (by omega)]
    simp only [cond_true, dec_f (show ¬ ((i : Int) < (l.length : Int)) by omega), cond_false]
    exact Ev.all fun _ => by simp
   | succ e ih =>
    intro i hi
    refine iter_ev (Ev.eq (fun _ => Q27_0 _ _ _ _ _) ?_)
    have h1 : i < l.length := by omega
    have h2 : i < p.length := by omega
    have wi : IntKind.wrap IntKind.i64 ((i : Int) + 1) = ((i + 1 : Nat) : Int) := by rw [wrap_id (by omega) (by omega)]; omega
    have hg : l.getD i 0 = l[i] := by simp [List.getD_eq_getElem?_getD, h1]
    have hg' : p.getD i 0 = p[i] := by simp [List.getD_eq_getElem?_getD, h2]
    simp only [cond_true, dec_t (show (i : Int) < (l.length : Int) by omega), dec_t (show (0 : Int) ≤ (i : Int) by omega), dec_t (show (i : Int) < (p.length : Int) by omega), Bool.and_self, Int.toNat_natCast, wi, hg, hg']
    rw [List.drop_eq_getElem_cons h1, List.drop_eq_getElem_cons h2]
    by_cases he : l[i] = p[i]
    ·have : (l[i] == p[i]) = true := by simpa using he
     rw [this]
     have := ih (i + 1) (by omega)
     have e3 : decide (l[i] :: l.drop (i + 1) = p[i] :: p.drop (i + 1)) = decide (l.drop (i + 1) = p.drop (i + 1)) := decide_eq_decide.2 ⟨fun h => (List.cons.inj h).2, fun h => by rw [he, h]⟩
     rw [e3]
     exact this
    ·have : (l[i] == p[i]) = false := by simpa using he
     rw [this]
     refine iter_ev (Ev.eq (fun _ => Q27_0 _ _ _ _ _) ?_)
     have e3 : decide (l[i] :: l.drop (i + 1) = p[i] :: p.drop (i + 1)) = false := decide_eq_false fun h => he (List.cons.inj h).1
     rw [e3]
     exact Ev.all fun _ => by first | rfl | trivial
  have := key l.length 0 (by omega)
  simpa using this
 ·have e0 : ((l.length : Int) == (p.length : Int)) = false := by simp; omega
  rw [e0]
  refine iter_ev (Ev.eq (fun _ => Q27_0 _ _ _ _ _) ?_)
  have : ¬ l = p := fun e => hlen (by rw [e])
  exact Ev.all fun _ => by simp [this]
end Go.Proofs.Ytallblpnlefpeaa
/- The reference: errors of a book, what a way makes. Conditions: as each lemma states. -/
namespace Go.Proofs.Ytallblpnlefpeaa
open Go Go.Gh Go.Proofs Go.Few
end Go.Proofs.Ytallblpnlefpeaa
/- The reference: all numbers, Value, Clash. Conditions: as each lemma states. -/
namespace Go.Proofs.Ytallblpnlefpeaa
open Go Go.Gh Go.Proofs Go.Few
end Go.Proofs.Ytallblpnlefpeaa
/- The reference: all numbers, Value, Clash: as the program. Conditions: as each lemma states. -/
namespace Go.Proofs.Ytallblpnlefpeaa
open Go Go.Gh Go.Proofs Go.Few
end Go.Proofs.Ytallblpnlefpeaa
