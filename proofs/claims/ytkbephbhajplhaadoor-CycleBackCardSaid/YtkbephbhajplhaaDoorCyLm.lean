/- What the ghost comes to: the statement 10. Conditions: none (equations, each by computation). -/
import Derived.Test.YtkbephbhajplhaaDoorCyHa
import Derived.Test.YtkbephbhajplhaaDoorCyAw
import Derived.Test.YtkbephbhajplhaaDoorCyWr
namespace Go.Proofs.YtkbephbhajplhaaDoor
open Go Go.Gh Go.Proofs
end Go.Proofs.YtkbephbhajplhaaDoor
/- CycleFewest: without the sums of Wrong there is a truth, without any fewer there is none. Conditions: none. -/
namespace Go.Proofs.YtkbephbhajplhaaDoor
open Go Go.Gh Go.Proofs Go.Few
theorem wrong_best {s : Se} (h0 : (chkP s).2.2.1 = 0) : (∃ r, wrongP s = (r, 0, ()) ∧ Best (fun l => l.Sublist (idxL s) ∧ okW s l = true) r) ∨ (wrongP s = ([], 9, ()) ∧ ∀ l, l.Sublist (idxL s) → okW s l = false) := by
 rw [wrong_find h0]
 have hall : ∀ l, l ∈ subsTo (idxL s) (s.2.1.length + 1) ↔ l.Sublist (idxL s) := fun l => by
  have := mem_all (hs := idxL s) (l := l)
  rwa [idx_len] at this
 cases hf : (subsTo (idxL s) (s.2.1.length + 1)).find? (okW s) with
 | some r =>
  have hb := find_best (okW s) (subsTo_pair (show (idxL s).Pairwise (· < ·) from upto_pair _ _) _) hf
  exact .inl ⟨r, rfl, hb.iff fun l => by rw [hall]⟩
 | none =>
  refine .inr ⟨rfl, fun l hl => ?_⟩
  have := List.find?_eq_none.1 hf l ((hall l).2 hl)
  simpa using this
end Go.Proofs.YtkbephbhajplhaaDoor
/- What the ghost comes to: the statement 13. Conditions: none (equations, each by computation). -/
namespace Go.Proofs.YtkbephbhajplhaaDoor
open Go Go.Gh Go.Proofs
def S13 : List Gh.Spec := [{ key := (0, 13, 7, 1), frs := [{ fn := 13, n := 194, regs := [(1, (.ptr 130001 [])), (5, (.dat (.int .i64))), (6, (.ptr 130006 [])), (7, (.dat (.int .i64)))], round := none, defers := [] }], heap := [(130001, .box (.dat tSe) false), (130006, .box (.dat tSe) false)] }, { key := (0, 13, 11, 1), frs := [{ fn := 13, n := 194, regs := [(1, (.ptr 130001 [])), (5, (.dat (.int .i64))), (6, (.ptr 130006 [])), (8, (.dat (.int .i64)))], round := none, defers := [] }], heap := [(130001, .box (.dat tSe) false), (130006, .box (.dat tSe) false)] }, { key := (0, 13, 23, 1), frs := [{ fn := 13, n := 194, regs := [(1, (.ptr 130001 [])), (5, (.dat (.int .i64))), (6, (.ptr 130006 [])), (18, (.dat (.int .i64)))], round := none, defers := [] }], heap := [(130001, .box (.dat tSe) false), (130006, .box (.dat tSe) false)] }]
noncomputable def K13_0 : Kept := { todos := [[.inLoop (cAt Tryd.f13 [1, 1, 1, 1, 0, 1, 0, 0]), .inBlock 0, .code (cAt Tryd.f13 [1, 1, 1, 1, 1])]], cs := [noCodes, noCodes] }
noncomputable def K13_1 : Kept := { todos := [[.inLoop (cAt Tryd.f13 [1, 1, 1, 1, 1, 0, 1, 0, 0]), .inBlock 2, .code (cAt Tryd.f13 [1, 1, 1, 1, 1, 1])]], cs := [noCodes, noCodes] }
noncomputable def K13_2 : Kept := { todos := [[.inLoop (cAt Tryd.f13 [1, 1, 1, 1, 1, 1, 1, 1, 1, 1, 1, 0, 1, 0, 0]), .inBlock 4, .code (cAt Tryd.f13 [1, 1, 1, 1, 1, 1, 1, 1, 1, 1, 1, 1])]], cs := [noCodes, noCodes] }
abbrev GT13 : Type := (n : Nat) → Kept → denK (specAt S13 n) → Option (denL [.bool])
theorem E13 (G : GT13) (t0 : Se) : enter cx58 S13 [.bool] 6000 some G 13 [tSe] (t0, ()) =
  Option.bind (F38 (t0, ())) fun (y : Bool × Unit) =>
 bif !Prod.fst y then Option.bind (F26 (t0, ())) fun (y : Sp × Int × Unit) => bif Prod.fst (Prod.snd y) != 0 then Option.bind (F23 ()) fun (y : Bool × Unit) => some (Prod.fst y, ()) else some (false, ())
 else G 0 K13_0 ((((), IntKind.wrap IntKind.i64 ((↑(List.length (Prod.fst t0)) : Int) - 1), (), IntKind.wrap IntKind.i64 ((↑(List.length (Prod.fst t0)) : Int) - 1), ()), ()), t0, ([], [], Prod.fst (Prod.snd (Prod.snd t0)), ()), ()) := by kernel_rfl
theorem Q13_0 (G : GT13) (t5 : Int) (t7 : Int) (h0 : Se) (h1 : Se) : seg cx58 S13 [.bool] 6000 some G 0 K13_0 ((((), (t5, ((), (t7, ())))), ()), (h0, (h1, ()))) =
  bif decide (t7 ≥ 0) then
 bif decide (List.length (Prod.fst h1) ≤ 2147483648) then
  bif decide (0 ≤ t7) && decide (t7 < (↑(List.length (Prod.fst h0)) : Int)) then
   bif decide (List.length (Prod.fst h1) + List.length (List.set (List.replicate 1 (0, 0, ())) 0 (List.getD (Prod.fst h0) (Int.toNat t7) (0, 0, ()))) ≤ 2147483648) then
    G 0 K13_0 ((((), t5, (), IntKind.wrap IntKind.i64 (t7 - 1), ()), ()), h0, (Prod.fst h1 ++ List.set (List.replicate 1 (0, 0, ())) 0 (List.getD (Prod.fst h0) (Int.toNat t7) (0, 0, ())), Prod.fst (Prod.snd h1), Prod.fst (Prod.snd (Prod.snd h1)), ()), ())
   else none
  else none
 else none
 else G 1 K13_1 ((((), t5, (), 0, ()), ()), h0, h1, ()) := by kernel_rfl
theorem Q13_1 (G : GT13) (t5 : Int) (t8 : Int) (h0 : Se) (h1 : Se) : seg cx58 S13 [.bool] 6000 some G 1 K13_1 ((((), (t5, ((), (t8, ())))), ()), (h0, (h1, ()))) =
  bif decide (t8 < (↑(List.length (Prod.fst (Prod.snd h0))) : Int)) then
 bif decide (0 ≤ t8) && decide (t8 < (↑(List.length (Prod.fst (Prod.snd h0))) : Int)) then
  bif decide (List.length (Prod.fst (Prod.snd h1)) ≤ 2147483648) then
   bif
     decide
      (List.length (Prod.fst (Prod.snd h1)) +
         List.length
          (List.set (List.replicate 1 (0, 0, (0, 0, ()), ())) 0
            (IntKind.wrap IntKind.i64 (t5 - Prod.fst (Prod.snd (List.getD (Prod.fst (Prod.snd h0)) (Int.toNat t8) (0, 0, (0, 0, ()), ())))), IntKind.wrap IntKind.i64 (t5 - Prod.fst (List.getD (Prod.fst (Prod.snd h0)) (Int.toNat t8) (0, 0, (0, 0, ()), ()))), Prod.snd (Prod.snd (List.getD (Prod.fst (Prod.snd h0)) (Int.toNat t8) (0, 0, (0, 0, ()), ()))))) ≤
        2147483648) then
    G 1 K13_1
     ((((), t5, (), IntKind.wrap IntKind.i64 (t8 + 1), ()), ()), h0,
       (Prod.fst h1,
         Prod.fst (Prod.snd h1) ++
          List.set (List.replicate 1 (0, 0, (0, 0, ()), ())) 0
           (IntKind.wrap IntKind.i64 (t5 - Prod.fst (Prod.snd (List.getD (Prod.fst (Prod.snd h0)) (Int.toNat t8) (0, 0, (0, 0, ()), ())))), IntKind.wrap IntKind.i64 (t5 - Prod.fst (List.getD (Prod.fst (Prod.snd h0)) (Int.toNat t8) (0, 0, (0, 0, ()), ()))), Prod.snd (Prod.snd (List.getD (Prod.fst (Prod.snd h0)) (Int.toNat t8) (0, 0, (0, 0, ()), ())))),
         Prod.fst (Prod.snd (Prod.snd h1)), ()),
       ())
   else none
  else none
 else none
 else
 Option.bind (F33 (h0, ())) fun (y : List Int × Int × Unit) =>
  Option.bind (F33 (h1, ())) fun (y_1 : List Int × Int × Unit) =>
   Option.bind (F26 (h0, ())) fun (y_2 : Sp × Int × Unit) =>
    Option.bind (F26 (h1, ())) fun (y_3 : Sp × Int × Unit) =>
     Option.bind (F32 (Prod.fst y, Prod.fst y_1, ())) fun (y_4 : Bool × Unit) =>
      bif !Prod.fst y_4 then some (false, ()) else bif Prod.fst (Prod.snd y) != Prod.fst (Prod.snd y_1) then some (false, ()) else bif !eqD (Ty.struct [Ty.int IntKind.i64, Ty.int IntKind.i64]) (Prod.fst y_2) (Prod.fst y_3) then some (false, ()) else bif Prod.fst (Prod.snd y_2) != Prod.fst (Prod.snd y_3) then some (false, ()) else G 2 K13_2 ((((), t5, (), 0, ()), ()), h0, h1, ()) := by kernel_rfl
theorem Q13_2 (G : GT13) (t5 : Int) (t18 : Int) (h0 : Se) (h1 : Se) : seg cx58 S13 [.bool] 6000 some G 2 K13_2 ((((), (t5, ((), (t18, ())))), ()), (h0, (h1, ()))) =
  bif decide (t18 ≤ t5) then
 Option.bind (F19 (h0, t18, ())) fun (y : Sp × Int × Unit) =>
  Option.bind (F19 (h1, IntKind.wrap IntKind.i64 (t5 - t18), ())) fun (y_1 : Sp × Int × Unit) =>
   Option.bind (F24 (h0, t18, ())) fun (y_2 : Int × Int × Int × Unit) =>
    Option.bind (F24 (h1, IntKind.wrap IntKind.i64 (t5 - t18), ())) fun (y_3 : Int × Int × Int × Unit) =>
     bif !eqD (Ty.struct [Ty.int IntKind.i64, Ty.int IntKind.i64]) (Prod.fst y) (Prod.fst y_1) then some (false, ())
     else
      bif Prod.fst (Prod.snd y) != Prod.fst (Prod.snd y_1) then some (false, ())
      else bif Prod.fst y_2 != Prod.fst y_3 then some (false, ()) else bif Prod.fst (Prod.snd y_2) != Prod.fst (Prod.snd y_3) then some (false, ()) else bif Prod.fst (Prod.snd (Prod.snd y_2)) != Prod.fst (Prod.snd (Prod.snd y_3)) then some (false, ()) else G 2 K13_2 ((((), t5, (), IntKind.wrap IntKind.i64 (t18 + 1), ()), ()), h0, h1, ())
 else Option.bind (F23 ()) fun (y : Bool × Unit) => some (Prod.fst y, ()) := by kernel_rfl
noncomputable def F13 : denL [tSe] → Option (denL [.bool]) := ghost cx58 S13 6000 13 [tSe] [.bool]
noncomputable abbrev T13_0 (t5 : Int) (t7 : Int) (h0 : Se) (h1 : Se) (f : Nat) : Option (denL [.bool]) := iter cx58 S13 [.bool] 6000 f 0 K13_0 ((((), (t5, ((), (t7, ())))), ()), (h0, (h1, ())))
theorem U13_0 (t5 : Int) (t7 : Int) (h0 : Se) (h1 : Se) {y : denL [.bool]} (h : Ev fun k => seg cx58 S13 [.bool] 6000 some (iter cx58 S13 [.bool] 6000 k) 0 K13_0 ((((), (t5, ((), (t7, ())))), ()), (h0, (h1, ()))) = some y) : Ev fun k => T13_0 t5 t7 h0 h1 k = some y := iter_ev h
noncomputable abbrev T13_1 (t5 : Int) (t8 : Int) (h0 : Se) (h1 : Se) (f : Nat) : Option (denL [.bool]) := iter cx58 S13 [.bool] 6000 f 1 K13_1 ((((), (t5, ((), (t8, ())))), ()), (h0, (h1, ())))
theorem U13_1 (t5 : Int) (t8 : Int) (h0 : Se) (h1 : Se) {y : denL [.bool]} (h : Ev fun k => seg cx58 S13 [.bool] 6000 some (iter cx58 S13 [.bool] 6000 k) 1 K13_1 ((((), (t5, ((), (t8, ())))), ()), (h0, (h1, ()))) = some y) : Ev fun k => T13_1 t5 t8 h0 h1 k = some y := iter_ev h
noncomputable abbrev T13_2 (t5 : Int) (t18 : Int) (h0 : Se) (h1 : Se) (f : Nat) : Option (denL [.bool]) := iter cx58 S13 [.bool] 6000 f 2 K13_2 ((((), (t5, ((), (t18, ())))), ()), (h0, (h1, ())))
theorem U13_2 (t5 : Int) (t18 : Int) (h0 : Se) (h1 : Se) {y : denL [.bool]} (h : Ev fun k => seg cx58 S13 [.bool] 6000 some (iter cx58 S13 [.bool] 6000 k) 2 K13_2 ((((), (t5, ((), (t18, ())))), ()), (h0, (h1, ()))) = some y) : Ev fun k => T13_2 t5 t18 h0 h1 k = some y := iter_ev h
theorem R13_0 (t5 : Int) (t7 : Int) (h0 : Se) (h1 : Se) {y : denL [.bool]} (h : Ev fun k =>
 (bif decide (t7 ≥ 0) then
 bif decide (List.length (Prod.fst h1) ≤ 2147483648) then
  bif decide (0 ≤ t7) && decide (t7 < (↑(List.length (Prod.fst h0)) : Int)) then
   bif decide (List.length (Prod.fst h1) + List.length (List.set (List.replicate 1 (0, 0, ())) 0 (List.getD (Prod.fst h0) (Int.toNat t7) (0, 0, ()))) ≤ 2147483648) then
    T13_0 t5 (IntKind.wrap IntKind.i64 (t7 - 1)) h0 (Prod.fst h1 ++ List.set (List.replicate 1 (0, 0, ())) 0 (List.getD (Prod.fst h0) (Int.toNat t7) (0, 0, ())), Prod.fst (Prod.snd h1), Prod.fst (Prod.snd (Prod.snd h1)), ()) k
   else none
  else none
 else none
 else T13_1 t5 0 h0 h1 k : Option (denL [.bool])) = some y) : Ev fun k => T13_0 t5 t7 h0 h1 k = some y := U13_0 _ _ _ _ (Ev.eq (fun _ => Q13_0 _ _ _ _ _) h)
theorem R13_1 (t5 : Int) (t8 : Int) (h0 : Se) (h1 : Se) {y : denL [.bool]} (h : Ev fun k =>
 (bif decide (t8 < (↑(List.length (Prod.fst (Prod.snd h0))) : Int)) then
 bif decide (0 ≤ t8) && decide (t8 < (↑(List.length (Prod.fst (Prod.snd h0))) : Int)) then
  bif decide (List.length (Prod.fst (Prod.snd h1)) ≤ 2147483648) then
   bif
     decide
      (List.length (Prod.fst (Prod.snd h1)) +
         List.length
          (List.set (List.replicate 1 (0, 0, (0, 0, ()), ())) 0
            (IntKind.wrap IntKind.i64 (t5 - Prod.fst (Prod.snd (List.getD (Prod.fst (Prod.snd h0)) (Int.toNat t8) (0, 0, (0, 0, ()), ())))), IntKind.wrap IntKind.i64 (t5 - Prod.fst (List.getD (Prod.fst (Prod.snd h0)) (Int.toNat t8) (0, 0, (0, 0, ()), ()))), Prod.snd (Prod.snd (List.getD (Prod.fst (Prod.snd h0)) (Int.toNat t8) (0, 0, (0, 0, ()), ()))))) ≤
        2147483648) then
    T13_1 t5 (IntKind.wrap IntKind.i64 (t8 + 1)) h0 (Prod.fst h1,
       Prod.fst (Prod.snd h1) ++
        List.set (List.replicate 1 (0, 0, (0, 0, ()), ())) 0
         (IntKind.wrap IntKind.i64 (t5 - Prod.fst (Prod.snd (List.getD (Prod.fst (Prod.snd h0)) (Int.toNat t8) (0, 0, (0, 0, ()), ())))), IntKind.wrap IntKind.i64 (t5 - Prod.fst (List.getD (Prod.fst (Prod.snd h0)) (Int.toNat t8) (0, 0, (0, 0, ()), ()))), Prod.snd (Prod.snd (List.getD (Prod.fst (Prod.snd h0)) (Int.toNat t8) (0, 0, (0, 0, ()), ())))),
       Prod.fst (Prod.snd (Prod.snd h1)), ()) k
   else none
  else none
 else none
 else
 Option.bind (F33 (h0, ())) fun (y : List Int × Int × Unit) =>
  Option.bind (F33 (h1, ())) fun (y_1 : List Int × Int × Unit) =>
   Option.bind (F26 (h0, ())) fun (y_2 : Sp × Int × Unit) =>
    Option.bind (F26 (h1, ())) fun (y_3 : Sp × Int × Unit) =>
     Option.bind (F32 (Prod.fst y, Prod.fst y_1, ())) fun (y_4 : Bool × Unit) =>
      bif !Prod.fst y_4 then some (false, ()) else bif Prod.fst (Prod.snd y) != Prod.fst (Prod.snd y_1) then some (false, ()) else bif !eqD (Ty.struct [Ty.int IntKind.i64, Ty.int IntKind.i64]) (Prod.fst y_2) (Prod.fst y_3) then some (false, ()) else bif Prod.fst (Prod.snd y_2) != Prod.fst (Prod.snd y_3) then some (false, ()) else T13_2 t5 0 h0 h1 k : Option (denL [.bool])) = some y) : Ev fun k => T13_1 t5 t8 h0 h1 k = some y := U13_1 _ _ _ _ (Ev.eq (fun _ => Q13_1 _ _ _ _ _) h)
theorem R13_2 (t5 : Int) (t18 : Int) (h0 : Se) (h1 : Se) {y : denL [.bool]} (h : Ev fun k =>
 (bif decide (t18 ≤ t5) then
 Option.bind (F19 (h0, t18, ())) fun (y : Sp × Int × Unit) =>
  Option.bind (F19 (h1, IntKind.wrap IntKind.i64 (t5 - t18), ())) fun (y_1 : Sp × Int × Unit) =>
   Option.bind (F24 (h0, t18, ())) fun (y_2 : Int × Int × Int × Unit) =>
    Option.bind (F24 (h1, IntKind.wrap IntKind.i64 (t5 - t18), ())) fun (y_3 : Int × Int × Int × Unit) =>
     bif !eqD (Ty.struct [Ty.int IntKind.i64, Ty.int IntKind.i64]) (Prod.fst y) (Prod.fst y_1) then some (false, ())
     else
      bif Prod.fst (Prod.snd y) != Prod.fst (Prod.snd y_1) then some (false, ())
      else bif Prod.fst y_2 != Prod.fst y_3 then some (false, ()) else bif Prod.fst (Prod.snd y_2) != Prod.fst (Prod.snd y_3) then some (false, ()) else bif Prod.fst (Prod.snd (Prod.snd y_2)) != Prod.fst (Prod.snd (Prod.snd y_3)) then some (false, ()) else T13_2 t5 (IntKind.wrap IntKind.i64 (t18 + 1)) h0 h1 k
 else Option.bind (F23 ()) fun (y : Bool × Unit) => some (Prod.fst y, ()) : Option (denL [.bool])) = some y) : Ev fun k => T13_2 t5 t18 h0 h1 k = some y := U13_2 _ _ _ _ (Ev.eq (fun _ => Q13_2 _ _ _ _ _) h)
theorem N13 (t0 : Se) {y : denL [.bool]} (h : Ev fun k =>
 (Option.bind (F38 (t0, ())) fun (y : Bool × Unit) =>
 bif !Prod.fst y then Option.bind (F26 (t0, ())) fun (y : Sp × Int × Unit) => bif Prod.fst (Prod.snd y) != 0 then Option.bind (F23 ()) fun (y : Bool × Unit) => some (Prod.fst y, ()) else some (false, ())
 else T13_0 (IntKind.wrap IntKind.i64 ((↑(List.length (Prod.fst t0)) : Int) - 1)) (IntKind.wrap IntKind.i64 ((↑(List.length (Prod.fst t0)) : Int) - 1)) t0 ([], [], Prod.fst (Prod.snd (Prod.snd t0)), ()) k : Option (denL [.bool])) = some y) : F13 (t0, ()) = some y := ghost_eq (Ev.eq (fun _ => E13 _ _) h)
end Go.Proofs.YtkbephbhajplhaaDoor
/- Maxima of truths, and how far they are apart. Conditions: as each lemma states. -/
namespace Go.Proofs.YtkbephbhajplhaaDoor
open Go Go.Gh Go.Proofs
theorem mem_tops {n : Nat} {t : List Int} {j : Nat} : j ∈ topsFrom n t 0 ↔ j < n ∧ isTop n t j = true := by
 unfold topsFrom
 rw [List.mem_filter, List.mem_range'_1]
 simp
theorem gaps_next {l i : Nat} : ∀ {T : List Nat}, T.Pairwise (· < ·) → l ∈ T → i ∈ T → l < i → (∀ j ∈ T, ¬ (l < j ∧ j < i)) → ((i : Int) - (l : Int)) ∈ gapsL T
 | [], _, h, _, _, _ => by simp at h
 | [a], _, h1, h2, h3, _ => by
  simp only [List.mem_singleton] at h1 h2; omega
 | a :: b :: r, hp, h1, h2, h3, h4 => by
  rw [List.pairwise_cons] at hp
  simp only [gapsL, List.mem_cons]
  by_cases e : l = a
  ·subst e
   have hi : i ∈ b :: r := by
    rcases List.mem_cons.1 h2 with e | e
    ·omega
    ·exact e
   have hb : b ≤ i := by
    rcases List.mem_cons.1 hi with e | e
    ·omega
    ·have := (List.pairwise_cons.1 hp.2).1 i e; omega
   have hlb := hp.1 b (by simp)
   have := h4 b (by simp)
   left; omega
  ·have h1' : l ∈ b :: r := (List.mem_cons.1 h1).resolve_left e
   have hal := hp.1 l h1'
   have h2' : i ∈ b :: r := by
    rcases List.mem_cons.1 h2 with e | e
    ·omega
    ·exact e
   exact .inr (gaps_next hp.2 h1' h2' h3 fun j hj => h4 j (List.mem_cons_of_mem _ hj))
theorem top_zero (n : Nat) (t : List Int) : isTop n t 0 = false := by unfold isTop; simp
theorem bot_zero (n : Nat) (t : List Int) : isBot n t 0 = false := by unfold isBot; simp
end Go.Proofs.YtkbephbhajplhaaDoor
/- A series told the other way round. Conditions: as each lemma states. -/
namespace Go.Proofs.YtkbephbhajplhaaDoor
open Go Go.Gh Go.Proofs Go.Few
theorem app_l {p : List Int} {v : Int} {i : Nat} (h : i < p.length) : (p ++ [v]).getD i 0 = p.getD i 0 := by
 rw [getD_lt (by simp; omega), getD_lt h, List.getElem_append_left h]
theorem app_r {p : List Int} {v : Int} {i : Nat} (h : p.length = i) : (p ++ [v]).getD i 0 = v := by
 subst h
 rw [getD_lt (by simp)]
 simp
theorem take_get {q : List Int} {n i : Nat} (h : i < n) (hn : n ≤ q.length) : (q.take n).getD i 0 = q.getD i 0 := by
 rw [getD_lt (by rw [List.length_take]; omega), getD_lt (by omega), List.getElem_take]
theorem mem_allB {s : Se} : ∀ {n : Nat} {q : List Int}, q ∈ allB s n ↔ q.length = n ∧ ∀ i, i < n → (s.1.getD i sp0).1 ≤ q.getD i 0 ∧ q.getD i 0 ≤ (s.1.getD i sp0).2.1
 | 0, q => by
  simp only [allB, List.mem_singleton]
  constructor
  ·rintro rfl; exact ⟨rfl, fun i h => by omega⟩
  ·rintro ⟨h, _⟩; exact List.length_eq_zero_iff.1 h
 | n + 1, q => by
  simp only [allB, List.mem_flatMap, List.mem_map]
  constructor
  ·rintro ⟨p, hp, v, hv, rfl⟩
   rw [mem_allB] at hp
   unfold valsOf at hv
   rw [mem_upto] at hv
   refine ⟨by simp [hp.1], fun i hi => ?_⟩
   by_cases e : i < n
   ·have := hp.2 i e
    rw [app_l (by omega)]
    exact this
   ·obtain rfl : i = n := by omega
    rw [app_r hp.1]
    omega
  ·rintro ⟨h1, h2⟩
   have hn : n < q.length := by omega
   refine ⟨q.take n, mem_allB.2 ⟨by rw [List.length_take]; omega, fun i hi => ?_⟩, q[n], ?_, ?_⟩
   ·rw [take_get hi (by omega)]
    exact h2 i (by omega)
   ·unfold valsOf
    rw [mem_upto]
    have := h2 n (by omega)
    rw [show q[n] = q.getD n 0 from (getD_lt hn).symm]
    omega
   ·have := List.take_append_drop n q
    rw [List.drop_eq_getElem_cons hn, List.drop_eq_nil_of_le (by omega)] at this
    exact this
theorem mem_gapsL {v : Int} : ∀ {T : List Nat}, T.Pairwise (· < ·) → v ∈ gapsL T → ∃ a b, a ∈ T ∧ b ∈ T ∧ a < b ∧ (∀ j ∈ T, ¬ (a < j ∧ j < b)) ∧ v = (b : Int) - (a : Int)
 | [], _, h => by simp [gapsL] at h
 | [_], _, h => by simp [gapsL] at h
 | a :: b :: r, hp, h => by
  rw [List.pairwise_cons] at hp
  simp only [gapsL, List.mem_cons] at h
  rcases h with rfl | h
  ·refine ⟨a, b, by simp, by simp, hp.1 b (by simp), fun j hj ⟨h1, h2⟩ => ?_, rfl⟩
   rcases List.mem_cons.1 hj with e | hj
   ·omega
   ·rcases List.mem_cons.1 hj with e | hj
    ·omega
    ·have := (List.pairwise_cons.1 hp.2).1 j hj; omega
  ·obtain ⟨c, d, h1, h2, h3, h4, h5⟩ := mem_gapsL hp.2 h
   refine ⟨c, d, by simp [h1], by simp [h2], h3, fun j hj hc => ?_, h5⟩
   rcases List.mem_cons.1 hj with e | hj
   ·have := hp.1 c h1; omega
   ·exact h4 j hj hc
theorem gapChk_iff {g : Sp} : ∀ {T : List Nat} {a : Nat}, gapChk g (a : Int) T = true ↔ ∀ v ∈ gapsL (a :: T), inGap g v = true
 | [], a => by simp [gapChk, gapsL]
 | b :: r, a => by
  simp only [gapChk, Bool.and_eq_true, Bool.or_eq_true, decide_eq_true_eq, gapsL, List.mem_cons]
  rw [gapChk_iff]
  constructor
  ·rintro ⟨h1, h2⟩ v (rfl | hv)
   ·exact h1.resolve_left (by omega)
   ·exact h2 v hv
  ·intro h
   exact ⟨.inr (h _ (.inl rfl)), fun v hv => h v (.inr hv)⟩
theorem gapChk_iff' {g : Sp} {T : List Nat} : gapChk g (-1) T = true ↔ ∀ v ∈ gapsL T, inGap g v = true := by
 cases T with
 | nil => simp [gapChk, gapsL]
 | cons a T =>
  simp only [gapChk, Bool.and_eq_true, Bool.or_eq_true, decide_eq_true_eq]
  rw [gapChk_iff]
  exact ⟨fun h => h.2, fun h => ⟨.inl (by omega), h⟩⟩
theorem rev_get {q : List Int} {i : Nat} (hi : i < q.length) : q.reverse.getD i 0 = q.getD (q.length - 1 - i) 0 := by
 rw [getD_lt (by rw [List.length_reverse]; exact hi), getD_lt (by omega), List.getElem_reverse]
theorem rev_top {n : Nat} {q : List Int} (hq : q.length = n) {i : Nat} (hi : i < n) : isTop n q.reverse i = isTop n q (n - 1 - i) := by
 by_cases h : 0 < i ∧ i + 1 < n
 ·rw [isTop_mid h.1 h.2, isTop_mid (by omega) (by omega), rev_get (by omega), rev_get (by omega), rev_get (by omega), hq, Bool.and_comm, show n - 1 - (i - 1) = n - 1 - i + 1 by omega, show n - 1 - (i + 1) = n - 1 - i - 1 by omega]
 ·have h0 : isTop n q.reverse i = false := by
   by_cases e : i = 0
   ·subst e; exact top_zero _ _
   ·exact isTop_end (by omega)
  have h1 : isTop n q (n - 1 - i) = false := by
   by_cases e : i = 0
   ·subst e; exact isTop_end (by omega)
   ·rw [show n - 1 - i = 0 by omega]; exact top_zero _ _
  rw [h0, h1]
theorem rev_bot {n : Nat} {q : List Int} (hq : q.length = n) {i : Nat} (hi : i < n) : isBot n q.reverse i = isBot n q (n - 1 - i) := by
 by_cases h : 0 < i ∧ i + 1 < n
 ·rw [isBot_mid h.1 h.2, isBot_mid (by omega) (by omega), rev_get (by omega), rev_get (by omega), rev_get (by omega), hq, Bool.and_comm, show n - 1 - (i - 1) = n - 1 - i + 1 by omega, show n - 1 - (i + 1) = n - 1 - i - 1 by omega]
 ·have h0 : isBot n q.reverse i = false := by
   by_cases e : i = 0
   ·subst e; exact bot_zero _ _
   ·exact isBot_end (by omega)
  have h1 : isBot n q (n - 1 - i) = false := by
   by_cases e : i = 0
   ·subst e; exact isBot_end (by omega)
   ·rw [show n - 1 - i = 0 by omega]; exact bot_zero _ _
  rw [h0, h1]
theorem rev_gap {n : Nat} {q : List Int} (hq : q.length = n) {v : Int} (h : v ∈ gapsL (topsFrom n q 0)) : v ∈ gapsL (topsFrom n q.reverse 0) := by
 obtain ⟨a, b, h1, h2, h3, h4, rfl⟩ := mem_gapsL (tops_pair n q) h
 rw [mem_tops] at h1 h2
 have e : (b : Int) - (a : Int) = ((n - 1 - a : Nat) : Int) - ((n - 1 - b : Nat) : Int) := by omega
 rw [e]
 refine gaps_next (tops_pair _ _) (mem_tops.2 ⟨by omega, ?_⟩) (mem_tops.2 ⟨by omega, ?_⟩) (by omega) fun j hj hc => ?_
 ·rw [rev_top hq (by omega), show n - 1 - (n - 1 - b) = b by omega]; exact h2.2
 ·rw [rev_top hq (by omega), show n - 1 - (n - 1 - a) = a by omega]; exact h1.2
 ·rw [mem_tops] at hj
  rw [rev_top hq hj.1] at hj
  exact h4 (n - 1 - j) (mem_tops.2 ⟨by omega, hj.2⟩) ⟨by omega, by omega⟩
theorem rev_gap' {n : Nat} {q : List Int} (hq : q.length = n) {v : Int} : v ∈ gapsL (topsFrom n q.reverse 0) ↔ v ∈ gapsL (topsFrom n q 0) :=
 ⟨fun h => by have := rev_gap (q := q.reverse) (by rw [List.length_reverse]; exact hq) h; rwa [List.reverse_reverse] at this, rev_gap hq⟩
theorem sumI_rev (l : List Int) : sumI l.reverse = sumI l := by
 induction l with
 | nil => rfl
 | cons a l ih => rw [List.reverse_cons, sumI_append, ih]; simp [sumI]; omega
theorem rev_sum {q : List Int} {a b : Nat} (hab : a ≤ b) (hb : b < q.length) : sumL q.reverse (q.length - 1 - b) (q.length - 1 - a) = sumL q a b := by
 unfold sumL
 rw [← sumI_rev]
 congr 1
 refine List.ext_getElem (by simp only [List.length_reverse, List.length_drop, List.length_take]; omega) fun i h1 h2 => ?_
 simp only [List.getElem_reverse, List.getElem_drop, List.getElem_take, List.length_drop, List.length_take, List.length_reverse]
 congr 1
 simp only [List.length_reverse, List.length_drop, List.length_take] at h1 h2
 omega
def backC (n : Nat) (c : Sm) : Sm := ((n : Int) - 1 - c.2.1, (n : Int) - 1 - c.1, c.2.2.1, ())
def backP (s : Se) : Se := (s.1.reverse, s.2.1.map (backC s.1.length), s.2.2.1, ())
theorem back_sum (s : Se) {k : Nat} (hk : k < s.2.1.length) : (backP s).2.1.getD k sm0 = backC s.1.length (s.2.1.getD k sm0) := by
 show (s.2.1.map (backC s.1.length)).getD k sm0 = _
 rw [getD_lt (by rw [List.length_map]; exact hk), List.getElem_map, getD_lt hk]
theorem back_year (s : Se) {i : Nat} (hi : i < s.1.length) : (backP s).1.getD i sp0 = s.1.getD (s.1.length - 1 - i) sp0 := by
 show s.1.reverse.getD i sp0 = _
 rw [getD_lt (by rw [List.length_reverse]; exact hi), getD_lt (by omega), List.getElem_reverse]
theorem back_vs {s : Se} (hs : VS s) : VS (backP s) := by
 have hl : (backP s).1.length = s.1.length := by simp [backP]
 have hm : (backP s).2.1.length = s.2.1.length := by simp [backP]
 refine ⟨by rw [hl]; exact hs.lo, by rw [hl]; exact hs.hi, fun i hi => ?_, by rw [hm]; exact hs.many, fun k hk => ?_, hs.gap⟩
 ·rw [hl] at hi
  rw [back_year s hi]
  exact hs.years _ (by omega)
 ·rw [hm] at hk
  have := hs.sums k hk
  rw [back_sum s hk, hl]
  simp only [backC]
  omega
theorem back_truth {s : Se} (hs : VS s) (but : Nat) {q : List Int} (h : q ∈ truthsR s but) : q.reverse ∈ truthsR (backP s) but := by
 have hl : (backP s).1.length = s.1.length := by simp [backP]
 have hm : (backP s).2.1.length = s.2.1.length := by simp [backP]
 unfold truthsR at h ⊢
 rw [List.mem_filter] at h ⊢
 obtain ⟨h1, h2⟩ := h
 rw [mem_allB] at h1
 obtain ⟨hq, h1⟩ := h1
 refine ⟨mem_allB.2 ⟨by rw [List.length_reverse, hl]; exact hq, fun i hi => ?_⟩, ?_⟩
 ·rw [hl] at hi
  rw [back_year s hi, rev_get (by omega), hq]
  exact h1 _ (by omega)
 ·unfold okAll at h2 ⊢
  rw [Bool.and_eq_true, gapChk_iff', List.all_eq_true] at h2 ⊢
  refine ⟨fun v hv => ?_, fun k hk => ?_⟩
  ·rw [hl, rev_gap' hq] at hv
   exact h2.1 v hv
  ·rw [List.mem_range, hm] at hk
   have h3 := h2.2 k (List.mem_range.2 hk)
   have hsm := hs.sums k hk
   unfold okSumR at h3 ⊢
   rw [back_sum s hk]
   rw [Bool.or_eq_true] at h3 ⊢
   refine h3.imp id fun h3 => ?_
   obtain ⟨u, hu⟩ := Int.eq_ofNat_of_zero_le hsm.1
   obtain ⟨v, hv⟩ := Int.eq_ofNat_of_zero_le (show 0 ≤ (s.2.1.getD k sm0).2.1 by omega)
   simp only [backC]
   rw [hu, hv, Int.toNat_natCast, Int.toNat_natCast] at h3
   rw [hu, hv, show ((s.1.length : Int) - 1 - (v : Int)).toNat = q.length - 1 - v by omega, show ((s.1.length : Int) - 1 - (u : Int)).toNat = q.length - 1 - u by omega, rev_sum (by omega) (by omega)]
   exact h3
theorem back_back {s : Se} : backP (backP s) = s := by
 obtain ⟨y, c, g, u⟩ := s
 cases u
 simp only [backP, List.reverse_reverse, List.length_reverse, List.map_map]
 congr 2
 refine (List.map_congr_left fun x _ => ?_).trans (List.map_id c)
 obtain ⟨a, b, t, u⟩ := x
 cases u
 simp only [Function.comp, backC, id]
 congr 1
 ·omega
 ·congr 1
  omega
theorem back_nil {s : Se} (hs : VS s) (but : Nat) : truthsR (backP s) but = [] ↔ truthsR s but = [] := by
 have key : ∀ {s : Se}, VS s → truthsR (backP s) but = [] → truthsR s but = [] := fun {s} hs h => by
  cases hq : truthsR s but with
  | nil => rfl
  | cons q l =>
   have := back_truth hs but (q := q) (by rw [hq]; simp)
   rw [h] at this; simp at this
 refine ⟨key hs, fun h => key (back_vs hs) ?_⟩
 rw [back_back]; exact h
theorem setB_eq {R R' : List (List Int)} {p p' : List Int → Bool} (hR : R ≠ []) (hR' : R' ≠ []) (h : ∀ t ∈ R, ∃ u ∈ R', p' u = p t) (h' : ∀ u ∈ R', ∃ t ∈ R, p t = p' u) : setB R p = setB R' p' := by
 rcases setB_in R p with e | e | e
 ·obtain ⟨⟨t, ht, h1⟩, ⟨u, hu, h2⟩⟩ := (setB_may hR).1 e
  obtain ⟨t', ht', h3⟩ := h t ht
  obtain ⟨u', hu', h4⟩ := h u hu
  rw [e, (setB_may hR').2 ⟨⟨t', ht', h3.trans h1⟩, ⟨u', hu', h4.trans h2⟩⟩]
 ·have h1 := setB_must.1 e
  rw [e, setB_must.2 fun u hu => by obtain ⟨t, ht, h3⟩ := h' u hu; rw [← h3]; exact h1 t ht]
 ·have h1 := (setB_never hR).1 e
  rw [e, (setB_never hR').2 fun u hu => by obtain ⟨t, ht, h3⟩ := h' u hu; rw [← h3]; exact h1 t ht]
theorem hull_eq {l p : List Int} {x y : Sp} (hx : Hull l x) (hy : Hull p y) (h : ∀ v, v ∈ l ↔ v ∈ p) : x = y := by
 have a1 := hy.all _ ((h _).1 hx.lo)
 have a2 := hy.all _ ((h _).1 hx.hi)
 have b1 := hx.all _ ((h _).2 hy.lo)
 have b2 := hx.all _ ((h _).2 hy.hi)
 exact sp_ext (by omega) (by omega)
end Go.Proofs.YtkbephbhajplhaaDoor
/- CycleBack: told the other way round, all is the same of the same years. Conditions: none. -/
namespace Go.Proofs.YtkbephbhajplhaaDoor
open Go Go.Gh Go.Proofs Go.Few
theorem back_len (s : Se) : (backP s).1.length = s.1.length := by simp [backP]
theorem back_alv {s : Se} (h : Alv s) : Alv (backP s) := ⟨back_vs h.ok, fun e => h.some ((back_nil h.ok 0).1 e)⟩
theorem back_okW {s : Se} (hs : VS s) (l : List Int) : okW (backP s) l = okW s l := by
 unfold okW
 rw [truths_eq hs, truths_eq (back_vs hs), decide_eq_decide]
 simp only [ne_eq, List.map_eq_nil_iff]
 rw [back_nil hs]
theorem back_wrong {s : Se} (hs : VS s) : wrongP (backP s) = wrongP s := by
 rw [wrong_find ((chkP_ok s).2 hs), wrong_find ((chkP_ok _).2 (back_vs hs))]
 have e1 : (backP s).2.1.length = s.2.1.length := by simp [backP]
 have e2 : idxL (backP s) = idxL s := by unfold idxL; rw [e1]
 have e3 : okW (backP s) = okW s := funext fun l => back_okW hs l
 rw [e1, e2, e3]
theorem back_err {s : Se} (hs : VS s) (hn : truthsR s 0 = []) (l l' : List Int) (hl : ∀ x ∈ l, 0 ≤ x ∧ x < s.1.length) (hl' : ∀ x ∈ l', 0 ≤ x ∧ x < s.1.length) : errP (backP s) 0 l' = errP s 0 l ∧ errP s 0 l ≠ 0 := by
 have key : ∀ {z : Se} {l : List Int}, VS z → truthsR z 0 = [] → (∀ x ∈ l, 0 ≤ x ∧ x < z.1.length) → errP z 0 l = 8 := fun {z l} hz hn hl => by
  unfold errP
  rw [if_pos ((chkP_ok z).2 hz), if_neg, if_pos rfl, if_pos ((truths_none hz).2 hn)]
  rw [Bool.not_eq_true, List.any_eq_false]
  intro x hx
  have := hl x hx
  unfold noYear
  rw [Bool.not_eq_true, Bool.or_eq_false_iff, decide_eq_false_iff_not, decide_eq_false_iff_not]
  omega
 have h1 := key (back_vs hs) ((back_nil hs 0).2 hn) (l := l') (by rw [back_len]; exact hl')
 have h2 := key hs hn hl
 rw [h1, h2]
 exact ⟨rfl, by decide⟩
theorem back_gaps {s : Se} (hs : VS s) : gapsP (backP s) = gapsP s := by
 by_cases hn : truthsR s 0 = []
 ·obtain ⟨e1, e2⟩ := back_err hs hn [] [] (by simp) (by simp)
  unfold gapsP
  rw [if_neg e2, e1, if_neg e2]
 ·have h : Alv s := ⟨hs, hn⟩
  have hb := back_alv h
  rw [h.gaps, hb.gaps]
  have hm : ∀ {z : Se}, Alv z → ∀ v, v ∈ gapsR z → v ∈ gapsR (backP z) := fun {z} hz v hv => by
   unfold gapsR at hv ⊢
   rw [List.mem_flatMap] at hv ⊢
   obtain ⟨t, ht, hv⟩ := hv
   refine ⟨t.reverse, back_truth hz.ok 0 ht, ?_⟩
   rw [back_len]
   exact rev_gap (hz.wf ht).1 hv
  have hmm : ∀ v, v ∈ gapsR s ↔ v ∈ gapsR (backP s) := fun v => ⟨hm h v, fun hv => by
   have := hm hb v hv
   rwa [back_back] at this⟩
  rcases spanH (gapsR_bd h.ok.hi) with ⟨e, e1⟩ | ⟨x, e1, hx⟩ <;> rcases spanH (gapsR_bd hb.ok.hi) with ⟨e', e2⟩ | ⟨y, e2, hy⟩
  ·rw [e1, e2]
  ·have := (hmm _).2 hy.lo
   rw [e] at this; simp at this
  ·have := (hmm _).1 hx.lo
   rw [e'] at this; simp at this
  ·rw [e1, e2, hull_eq hx hy hmm]
theorem back_number {s : Se} (hs : VS s) {i : Nat} (hi : i < s.1.length) : numberP (backP s) ((s.1.length - 1 - i : Nat) : Int) = numberP s (i : Int) := by
 by_cases hn : truthsR s 0 = []
 ·obtain ⟨e1, e2⟩ := back_err hs hn [(i : Int)] [((s.1.length - 1 - i : Nat) : Int)] (fun x hx => by simp only [List.mem_singleton] at hx; omega) (fun x hx => by simp only [List.mem_singleton] at hx; omega)
  unfold numberP
  rw [if_neg e2, e1, if_neg e2]
 ·have h : Alv s := ⟨hs, hn⟩
  have hb := back_alv h
  have hl := back_len s
  rw [h.number hi, hb.number (by omega)]
  congr 1
  have hx := h.hull i hi
  have hy := hb.hull (s.1.length - 1 - i) (q := s.1.length - 1 - i) (by omega)
  refine hull_eq hy hx fun v => ?_
  simp only [List.mem_map]
  have hg : ∀ {z : Se}, Alv z → ∀ {j : Nat}, j < z.1.length → ∀ t ∈ truthsR z 0, sumL t.reverse (z.1.length - 1 - j) (z.1.length - 1 - j) = sumL t j j := fun {z} hz {j} hj t ht => by
   have hw := (hz.wf ht).1
   rw [← hw]
   exact rev_sum (Nat.le_refl _) (by omega)
  constructor
  ·rintro ⟨t, ht, rfl⟩
   refine ⟨t.reverse, ?_, ?_⟩
   ·have := back_truth hb.ok 0 ht
    rwa [back_back] at this
   ·have := hg hb (j := s.1.length - 1 - i) (by omega) t ht
    rw [hl, show s.1.length - 1 - (s.1.length - 1 - i) = i by omega] at this
    exact this
  ·rintro ⟨t, ht, rfl⟩
   exact ⟨t.reverse, back_truth hs 0 ht, hg h hi t ht⟩
theorem back_turns {s : Se} (hs : VS s) {i : Nat} (hi : i < s.1.length) : turnsP (backP s) ((s.1.length - 1 - i : Nat) : Int) = turnsP s (i : Int) := by
 by_cases hn : truthsR s 0 = []
 ·obtain ⟨e1, e2⟩ := back_err hs hn [(i : Int)] [((s.1.length - 1 - i : Nat) : Int)] (fun x hx => by simp only [List.mem_singleton] at hx; omega) (fun x hx => by simp only [List.mem_singleton] at hx; omega)
  unfold turnsP
  rw [if_neg e2, e1, if_neg e2]
 ·have h : Alv s := ⟨hs, hn⟩
  have hb := back_alv h
  have hl := back_len s
  have hv : turnsP s (i : Int) = (setB (truthsR s 0) (isTop s.1.length · i), setB (truthsR s 0) (isBot s.1.length · i), 0, ()) := h.turns hi
  have hw : turnsP (backP s) ((s.1.length - 1 - i : Nat) : Int) = (setB (truthsR (backP s) 0) (isTop (backP s).1.length · (s.1.length - 1 - i)), setB (truthsR (backP s) 0) (isBot (backP s).1.length · (s.1.length - 1 - i)), 0, ()) := hb.turns (by omega)
  rw [hv, hw, hl]
  have b1 : ∀ t ∈ truthsR (backP s) 0, t.reverse ∈ truthsR s 0 ∧ t.length = s.1.length := fun t ht => ⟨by
   have := back_truth hb.ok 0 ht
   rwa [back_back] at this, by rw [(hb.wf ht).1, hl]⟩
  have b2 : ∀ t ∈ truthsR s 0, t.reverse ∈ truthsR (backP s) 0 ∧ t.length = s.1.length := fun t ht => ⟨back_truth hs 0 ht, (h.wf ht).1⟩
  have e1 : setB (truthsR (backP s) 0) (isTop s.1.length · (s.1.length - 1 - i)) = setB (truthsR s 0) (isTop s.1.length · i) := setB_eq hb.some h.some
   (fun t ht => ⟨t.reverse, (b1 t ht).1, rev_top (b1 t ht).2 hi⟩)
   (fun t ht => ⟨t.reverse, (b2 t ht).1, by
     rw [rev_top (b2 t ht).2 (show s.1.length - 1 - i < s.1.length by omega), show s.1.length - 1 - (s.1.length - 1 - i) = i by omega]⟩)
  have e2 : setB (truthsR (backP s) 0) (isBot s.1.length · (s.1.length - 1 - i)) = setB (truthsR s 0) (isBot s.1.length · i) := setB_eq hb.some h.some
   (fun t ht => ⟨t.reverse, (b1 t ht).1, rev_bot (b1 t ht).2 hi⟩)
   (fun t ht => ⟨t.reverse, (b2 t ht).1, by
     rw [rev_bot (b2 t ht).2 (show s.1.length - 1 - i < s.1.length by omega), show s.1.length - 1 - (s.1.length - 1 - i) = i by omega]⟩)
  rw [e1, e2]
theorem L13 (s : Se) : F13 ((s, ()) : Se × Unit) = some (true, ()) := by
 refine N13 _ ?_
 rw [L38]
 simp only [Option.bind_some]
 by_cases h0 : (chkP s).2.2.1 = 0
 ·have hs := chk_zero h0
  have h3 := hs.lo
  have h7 := hs.hi
  have h4 := hs.many
  rw [h0, wrap_pred (n := s.1.length) (by omega) (by omega)]
  simp only [beq_self_eq_true, Bool.not_true, cond_false]
  obtain ⟨last, hlast⟩ : ∃ last, s.1.length = last + 1 := ⟨s.1.length - 1, by omega⟩
  rw [show s.1.length - 1 = last by omega]
  have yrs : ∀ (c i : Nat), i + c = last + 1 → Ev fun k => T13_2 (last : Int) (i : Int) s (backP s) k = some (true, ()) := by
   intro c
   induction c with
   | zero =>
    intro i hi
    refine R13_2 _ _ _ _ ?_
    rw [dec_f (by omega), L23]
    exact Ev.all fun _ => rfl
   | succ c ih =>
    intro i hi
    have ih := ih (i + 1) (by omega)
    refine R13_2 _ _ _ _ ?_
    have e : IntKind.wrap IntKind.i64 ((last : Int) - (i : Int)) = ((s.1.length - 1 - i : Nat) : Int) := by rw [wrap_id (by omega) (by omega)]; omega
    rw [dec_t (show (i : Int) ≤ (last : Int) by omega), e, L19, L19, L24, L24, back_number hs (by omega), back_turns hs (by omega), wrap_succ (n := i) (by omega)]
    simp only [cond_true, Option.bind_some, eqSp, bne_self_eq_false, cond_false]
    simp only [decide_true, Bool.not_true, cond_false]
    exact ih
  have sums : ∀ (c k : Nat), k + c = s.2.1.length → Ev fun f => T13_1 (last : Int) (k : Int) s (s.1.reverse, (s.2.1.take k).map (backC s.1.length), s.2.2.1, ()) f = some (true, ()) := by
   intro c
   induction c with
   | zero =>
    intro k hk
    refine R13_1 _ _ _ _ ?_
    have e : ((s.1.reverse, (s.2.1.take k).map (backC s.1.length), s.2.2.1, ()) : Se) = backP s := by
     rw [List.take_of_length_le (by omega)]; rfl
    rw [e, dec_f (by omega), L33, L33, L26, L26, back_wrong hs, back_gaps hs]
    simp only [cond_false, Option.bind_some]
    rw [L32 _ _ (by
     rcases wrong_best h0 with ⟨r, e, hb⟩ | ⟨e, _⟩
     ·rw [e]
      have := hb.is.1.length_le
      rw [idx_len] at this
      simp only; omega
     ·rw [e]; simp)]
    simp only [Option.bind_some, decide_true, Bool.not_true, cond_false, bne_self_eq_false, eqSp]
    exact yrs (last + 1) 0 (by omega)
   | succ c ih =>
    intro k hk
    have hlt : k < s.2.1.length := by omega
    have ih := ih (k + 1) (by omega)
    rw [List.take_add_one, List.getElem?_eq_getElem hlt, List.map_append] at ih
    simp only [Option.toList_some, List.map_cons, List.map_nil] at ih
    have hsm := hs.sums k hlt
    rw [getD_lt hlt] at hsm
    have hl : ((s.2.1.take k).map (backC s.1.length)).length ≤ 4 := by rw [List.length_map, List.length_take]; omega
    refine R13_1 _ _ _ _ ?_
    rw [dec_t (show (k : Int) < (s.2.1.length : Int) by omega), dec_t (show (0 : Int) ≤ (k : Int) by omega), Int.toNat_natCast, getD_lt hlt, one_set]
    generalize s.2.1[k] = c at *
    have eb : ((IntKind.wrap IntKind.i64 ((last : Int) - c.2.1), IntKind.wrap IntKind.i64 ((last : Int) - c.1), c.2.2) : Sm) = backC s.1.length c := by
     rw [wrap_id (x := (last : Int) - c.2.1) (by omega) (by omega), wrap_id (x := (last : Int) - c.1) (by omega) (by omega)]
     unfold backC
     rw [hlast]
     obtain ⟨a, b, t, u⟩ := c
     cases u
     simp only
     rw [show ((last + 1 : Nat) : Int) - 1 = (last : Int) by omega]
    rw [eb]
    generalize (s.2.1.take k).map (backC s.1.length) = P at ih hl ⊢
    rw [dec_t (show P.length ≤ 2147483648 by omega), dec_t (show P.length + [backC s.1.length c].length ≤ 2147483648 by simp only [List.length_cons, List.length_nil]; omega), wrap_succ (n := k) (by omega)]
    exact ih
  have years : ∀ (c : Nat), c ≤ s.1.length → Ev fun f => T13_0 (last : Int) ((c : Int) - 1) s ((s.1.drop c).reverse, [], s.2.2.1, ()) f = some (true, ()) := by
   intro c
   induction c with
   | zero =>
    intro _
    refine R13_0 _ _ _ _ ?_
    rw [dec_f (by omega), List.drop_zero]
    have := sums s.2.1.length 0 (by omega)
    rw [List.take_zero, List.map_nil] at this
    exact this
   | succ c ih =>
    intro hc
    have ih := ih (by omega)
    have hlt : c < s.1.length := by omega
    rw [List.drop_eq_getElem_cons hlt, List.reverse_cons] at ih
    have hl : (s.1.drop (c + 1)).reverse.length ≤ 7 := by rw [List.length_reverse, List.length_drop]; omega
    refine R13_0 _ _ _ _ ?_
    rw [show ((c + 1 : Nat) : Int) - 1 = (c : Int) by omega, dec_t (show (c : Int) ≥ 0 by omega), dec_t (show (c : Int) < (s.1.length : Int) by omega), Int.toNat_natCast, getD_lt hlt, one_set, wrap_id (x := (c : Int) - 1) (by omega) (by omega)]
    simp only [Bool.and_self, cond_true]
    generalize (s.1.drop (c + 1)).reverse = P at ih hl ⊢
    rw [dec_t (show P.length ≤ 2147483648 by omega), dec_t (show P.length + [s.1[c]].length ≤ 2147483648 by simp only [List.length_cons, List.length_nil]; omega)]
    exact ih
  have := years s.1.length (Nat.le_refl _)
  rw [List.drop_eq_nil_of_le (Nat.le_refl _), List.reverse_nil, hlast, show ((last + 1 : Nat) : Int) - 1 = (last : Int) by omega] at this
  exact this
 ·have he : errP s 0 [] ≠ 0 := fun e => h0 ((chkP_ok s).2 (errP_ok e).1)
  have e1 : (gapsP s).2.1 = errP s 0 [] := by unfold gapsP; rw [if_neg he]
  rw [show ((chkP s).2.2.1 == 0) = false from beq_eq_false_iff_ne.2 h0, L26, L23]
  simp only [Bool.not_false, cond_true, Option.bind_some]
  rw [e1, show (errP s 0 [] != 0) = true from bne_iff_ne.2 he]
  exact Ev.all fun _ => by first | rfl | trivial
end Go.Proofs.YtkbephbhajplhaaDoor
