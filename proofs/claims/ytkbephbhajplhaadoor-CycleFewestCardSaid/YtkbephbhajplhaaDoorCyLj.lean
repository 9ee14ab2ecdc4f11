/- What the ghost comes to: the statement 10. Conditions: none (equations, each by computation). -/
import Derived.Test.YtkbephbhajplhaaDoorCyHa
import Derived.Test.YtkbephbhajplhaaDoorCyAw
import Derived.Test.YtkbephbhajplhaaDoorCyWr
namespace Go.Proofs.YtkbephbhajplhaaDoor
open Go Go.Gh Go.Proofs
def S10 : List Gh.Spec := [{ key := (0, 10, 6, 1), frs := [{ fn := 10, n := 87, regs := [(1, (.dat (.int .u8))), (2, (.ptr 100002 [])), (5, (.dat (.slice (.int .i64)))), (6, (.dat (.int .i64))), (7, (.row 100042)), (8, (.dat (.int .i64)))], round := none, defers := [] }], heap := [(100002, .box (.dat tSe) false), (100042, .row (.int .i64) false)] }]
noncomputable def K10_0 : Kept := { todos := [[.inLoop (cAt Tryd.f10 [1, 1, 1, 1, 0, 1, 0, 0]), .inBlock 0, .code (cAt Tryd.f10 [1, 1, 1, 1, 1])]], cs := [noCodes, noCodes] }
abbrev GT10 : Type := (n : Nat) → Kept → denK (specAt S10 n) → Option (denL [.bool])
theorem E10 (G : GT10) (t0 : Se) (t1 : Int) : enter cx58 S10 [.bool] 6000 some G 10 [tSe, (.int .u8)] (t0, (t1, ())) =
  Option.bind (F33 (t0, ())) fun (y : List Int × Int × Unit) =>
 Option.bind (F38 (t0, ())) fun (y_1 : Bool × Unit) => bif !Prod.fst y_1 then bif Prod.fst (Prod.snd y) != 0 then bif (↑(List.length (Prod.fst y)) : Int) == 0 then Option.bind (F23 ()) fun (y : Bool × Unit) => some (Prod.fst y, ()) else some (false, ()) else some (false, ()) else G 0 K10_0 (((t1, (), Prod.fst y, Prod.fst (Prod.snd y), (), 0, ()), ()), t0, [], ()) := by kernel_rfl
theorem Q10_0 (G : GT10) (t1 : Int) (t5 : (List Int)) (t6 : Int) (t8 : Int) (h0 : Se) (h1 : (List Int)) : seg cx58 S10 [.bool] 6000 some G 0 K10_0 (((t1, ((), (t5, (t6, ((), (t8, ())))))), ()), (h0, (h1, ()))) =
  bif decide (t8 < (↑(List.length (Prod.fst (Prod.snd h0))) : Int)) then
 Option.bind (F53 (IntKind.wrap IntKind.i64 t1, t8, ())) fun (y : Bool × Unit) =>
  bif Prod.fst y then bif decide (List.length h1 + List.length (List.set (List.replicate 1 0) 0 t8) ≤ 2147483648) then G 0 K10_0 (((t1, (), t5, t6, (), IntKind.wrap IntKind.i64 (t8 + 1), ()), ()), h0, h1 ++ List.set (List.replicate 1 0) 0 t8, ()) else none else G 0 K10_0 (((t1, (), t5, t6, (), IntKind.wrap IntKind.i64 (t8 + 1), ()), ()), h0, h1, ())
 else
 Option.bind (F54 (h0, h1, ())) fun (y : Se × Unit) =>
  Option.bind (F51 (Prod.fst y, ())) fun (y : Bool × Unit) =>
   bif t6 != 0 then bif t6 == 9 then bif (↑(List.length t5) : Int) == 0 then bif !Prod.fst y then Option.bind (F23 ()) fun (y : Bool × Unit) => some (Prod.fst y, ()) else some (false, ()) else some (false, ()) else some (false, ())
   else
    Option.bind (F55 (t5, (↑(List.length (Prod.fst (Prod.snd h0))) : Int), ())) fun (y_1 : Bool × Unit) =>
     bif Prod.fst y_1 then
      Option.bind (F54 (h0, t5, ())) fun (y_2 : Se × Unit) =>
       Option.bind (F51 (Prod.fst y_2, ())) fun (y_3 : Bool × Unit) => bif Prod.fst y_3 then bif !Prod.fst y then Option.bind (F23 ()) fun (y : Bool × Unit) => some (Prod.fst y, ()) else Option.bind (F56 (h1, t5, ())) fun (y : Bool × Unit) => bif !Prod.fst y then Option.bind (F23 ()) fun (y : Bool × Unit) => some (Prod.fst y, ()) else some (false, ()) else some (false, ())
     else some (false, ()) := by kernel_rfl
noncomputable def F10 : denL [tSe, (.int .u8)] → Option (denL [.bool]) := ghost cx58 S10 6000 10 [tSe, (.int .u8)] [.bool]
noncomputable abbrev T10_0 (t1 : Int) (t5 : (List Int)) (t6 : Int) (t8 : Int) (h0 : Se) (h1 : (List Int)) (f : Nat) : Option (denL [.bool]) := iter cx58 S10 [.bool] 6000 f 0 K10_0 (((t1, ((), (t5, (t6, ((), (t8, ())))))), ()), (h0, (h1, ())))
theorem U10_0 (t1 : Int) (t5 : (List Int)) (t6 : Int) (t8 : Int) (h0 : Se) (h1 : (List Int)) {y : denL [.bool]} (h : Ev fun k => seg cx58 S10 [.bool] 6000 some (iter cx58 S10 [.bool] 6000 k) 0 K10_0 (((t1, ((), (t5, (t6, ((), (t8, ())))))), ()), (h0, (h1, ()))) = some y) : Ev fun k => T10_0 t1 t5 t6 t8 h0 h1 k = some y := iter_ev h
theorem R10_0 (t1 : Int) (t5 : (List Int)) (t6 : Int) (t8 : Int) (h0 : Se) (h1 : (List Int)) {y : denL [.bool]} (h : Ev fun k =>
 (bif decide (t8 < (↑(List.length (Prod.fst (Prod.snd h0))) : Int)) then
 Option.bind (F53 (IntKind.wrap IntKind.i64 t1, t8, ())) fun (y : Bool × Unit) =>
   bif Prod.fst y then bif decide (List.length h1 + List.length (List.set (List.replicate 1 0) 0 t8) ≤ 2147483648) then T10_0 t1 t5 t6 (IntKind.wrap IntKind.i64 (t8 + 1)) h0 (h1 ++ List.set (List.replicate 1 0) 0 t8) k else none else T10_0 t1 t5 t6 (IntKind.wrap IntKind.i64 (t8 + 1)) h0 h1 k
 else
 Option.bind (F54 (h0, h1, ())) fun (y : Se × Unit) =>
   Option.bind (F51 (Prod.fst y, ())) fun (y : Bool × Unit) =>
    bif t6 != 0 then bif t6 == 9 then bif (↑(List.length t5) : Int) == 0 then bif !Prod.fst y then Option.bind (F23 ()) fun (y : Bool × Unit) => some (Prod.fst y, ()) else some (false, ()) else some (false, ()) else some (false, ())
    else
     Option.bind (F55 (t5, (↑(List.length (Prod.fst (Prod.snd h0))) : Int), ())) fun (y_1 : Bool × Unit) =>
      bif Prod.fst y_1 then
       Option.bind (F54 (h0, t5, ())) fun (y_2 : Se × Unit) =>
        Option.bind (F51 (Prod.fst y_2, ())) fun (y_3 : Bool × Unit) => bif Prod.fst y_3 then bif !Prod.fst y then Option.bind (F23 ()) fun (y : Bool × Unit) => some (Prod.fst y, ()) else Option.bind (F56 (h1, t5, ())) fun (y : Bool × Unit) => bif !Prod.fst y then Option.bind (F23 ()) fun (y : Bool × Unit) => some (Prod.fst y, ()) else some (false, ()) else some (false, ())
      else some (false, ()) : Option (denL [.bool])) = some y) : Ev fun k => T10_0 t1 t5 t6 t8 h0 h1 k = some y := U10_0 _ _ _ _ _ _ (Ev.eq (fun _ => Q10_0 _ _ _ _ _ _ _) h)
theorem N10 (t0 : Se) (t1 : Int) {y : denL [.bool]} (h : Ev fun k =>
 (Option.bind (F33 (t0, ())) fun (y : List Int × Int × Unit) =>
 Option.bind (F38 (t0, ())) fun (y_1 : Bool × Unit) => bif !Prod.fst y_1 then bif Prod.fst (Prod.snd y) != 0 then bif (↑(List.length (Prod.fst y)) : Int) == 0 then Option.bind (F23 ()) fun (y : Bool × Unit) => some (Prod.fst y, ()) else some (false, ()) else some (false, ()) else T10_0 t1 (Prod.fst y) (Prod.fst (Prod.snd y)) 0 t0 ([]) k : Option (denL [.bool])) = some y) : F10 (t0, (t1, ())) = some y := ghost_eq (Ev.eq (fun _ => E10 _ _ _) h)
end Go.Proofs.YtkbephbhajplhaaDoor
/- CycleFewest: without the sums of Wrong there is a truth, without any fewer there is none. Conditions: none. -/
namespace Go.Proofs.YtkbephbhajplhaaDoor
open Go Go.Gh Go.Proofs Go.Few
theorem alv_but {s : Se} (hs : VS s) (l : List Int) (hl : ∀ x ∈ l, 0 ≤ x) : alvB (butSe s l) = okW s l := by
 rw [okW_but hs l hl]
 unfold alvB
 rw [(chkP_ok _).2 (but_vs hs l)]
 rfl
theorem idx_in (s : Se) : ∀ x ∈ idxL s, 0 ≤ x ∧ x < (s.2.1.length : Int) := fun x hx => by
 unfold idxL at hx
 rw [mem_upto] at hx
 omega
theorem wrong_best {s : Se} (h0 : (chkP s).2.2.1 = 0) : (∃ r, wrongP s = (r, 0, ()) ∧ Best (fun l => l.Sublist (idxL s) ∧ okW s l = true) r) ∨ (wrongP s = ([], 9, ()) ∧ ∀ l, l.Sublist (idxL s) → okW s l = false) := by
 rw [wrong_find h0]
 have hall : ∀ l, l ∈ subsTo (idxL s) (s.2.1.length + 1) ↔ l.Sublist (idxL s) := fun l => by
  have := mem_all (hs := idxL s) (l := l)
  rwa [idx_len] at this
 cases hf : (subsTo (idxL s) (s.2.1.length + 1)).find? (okW s) with
 | some r =>
  have hb := find_best (okW s) (subsTo_pair (show (idxL s).Pairwise (· < ·) from upto_pair _ _) _) hf
  exact .inl ⟨r, rfl, hb.iff fun l => by rw [hall]⟩
 | none =>
  refine .inr ⟨rfl, fun l hl => ?_⟩
  have := List.find?_eq_none.1 hf l ((hall l).2 hl)
  simpa using this
theorem L10 (s : Se) (bits : Int) (hb0 : 0 ≤ bits) (hb1 : bits ≤ 255) : F10 ((s, bits, ()) : Se × Int × Unit) = some (true, ()) := by
 obtain ⟨b, rfl⟩ := Int.eq_ofNat_of_zero_le hb0
 refine N10 _ _ ?_
 rw [L33, L38]
 simp only [Option.bind_some]
 by_cases h0 : (chkP s).2.2.1 = 0
 ·have hs := chk_zero h0
  have h4 := hs.many
  rw [h0]
  simp only [beq_self_eq_true, Bool.not_true, cond_false]
  have hsub : (numsL (b.testBit ·) s.2.1.length).Sublist (idxL s) := by
   have h1 := selB_sub (idxL s) b
   rwa [idx_len, sel_nums s b _ (Nat.le_refl _)] at h1
  have fin : Ev fun k => T10_0 (b : Int) (wrongP s).1 (wrongP s).2.1 (s.2.1.length : Int) s (numsL (b.testBit ·) s.2.1.length) k = some (true, ()) := by
   refine R10_0 _ _ _ _ _ _ ?_
   have hlen := numsL_len (b.testBit ·) s.2.1.length
   have hpos : ∀ x ∈ numsL (b.testBit ·) s.2.1.length, 0 ≤ x := fun x hx => (idx_in s x (hsub.subset hx)).1
   generalize numsL (b.testBit ·) s.2.1.length = other at *
   rw [dec_f (by omega), L54 s _ (by omega) h4]
   simp only [cond_false, Option.bind_some]
   rw [L51, alv_but hs _ hpos]
   simp only [Option.bind_some]
   rcases wrong_best h0 with ⟨r, e, hb⟩ | ⟨e, hn⟩
   ·rw [e]
    have hr := hb.is.1
    have hrl : r.length ≤ s.2.1.length := by have := hr.length_le; rwa [idx_len] at this
    have hrp : ∀ x ∈ r, 0 ≤ x := fun x hx => (idx_in s x (hr.subset hx)).1
    simp only [bne_self_eq_false, cond_false]
    rw [L55 r s.2.1.length (by omega) (by omega) ((upto_pair _ _).sublist hr) (fun x hx => idx_in s x (hr.subset hx)), L54 s r (by omega) h4]
    simp only [cond_true, Option.bind_some]
    rw [L51, alv_but hs _ hrp, hb.is.2]
    simp only [cond_true, Option.bind_some]
    cases hok : okW s other with
    | false =>
     simp only [Bool.not_false, cond_true]
     rw [L23]
     exact Ev.all fun _ => by first | rfl | trivial
    | true =>
     obtain ⟨c, e1, e2⟩ := L56 other r (by omega)
     rw [e1]
     have hc : c = false := by
      cases c with
      | false => rfl
      | true => exact absurd (e2.1 rfl) (fun h => hb.first other ⟨hsub, hok⟩ h)
     subst hc
     simp only [Bool.not_true, Bool.not_false, cond_false, cond_true, Option.bind_some]
     rw [L23]
     exact Ev.all fun _ => by first | rfl | trivial
   ·rw [e, hn _ hsub]
    simp only [L23]
    exact Ev.all fun _ => by first | rfl | trivial
  have key : ∀ (c i : Nat), i + c = s.2.1.length → Ev fun k => T10_0 (b : Int) (wrongP s).1 (wrongP s).2.1 (i : Int) s (numsL (b.testBit ·) i) k = some (true, ()) := by
   intro c
   induction c with
   | zero =>
    intro i hi
    obtain rfl : i = s.2.1.length := by omega
    exact fin
   | succ c ih =>
    intro i hi
    have ih := ih (i + 1) (by omega)
    have hlen := numsL_len (b.testBit ·) i
    rw [numsL_succ] at ih
    generalize numsL (b.testBit ·) i = P at ih hlen
    refine R10_0 _ _ _ _ _ _ ?_
    rw [dec_t (show (i : Int) < (s.2.1.length : Int) by omega), wrap_id (x := (b : Int)) (by omega) (by omega), L53 b (by omega) i (by omega), one_set, dec_t (show P.length + [(i : Int)].length ≤ 2147483648 by simp only [List.length_cons, List.length_nil]; omega), wrap_succ (n := i) (by omega)]
    simp only [cond_true, Option.bind_some]
    cases ht : b.testBit i with
    | true => rw [ht, if_pos rfl] at ih; exact ih
    | false => rw [ht, if_neg (by simp)] at ih; exact ih
  exact key s.2.1.length 0 (by omega)
 ·have hv : wrongP s = ([], (chkP s).2.2.1, ()) := if_neg h0
  rw [hv, show ((chkP s).2.2.1 == 0) = false from beq_eq_false_iff_ne.2 h0, show ((chkP s).2.2.1 != 0) = true from bne_iff_ne.2 h0, L23]
  exact Ev.all fun _ => by first | rfl | trivial
end Go.Proofs.YtkbephbhajplhaaDoor
