/- What the ghost comes to: the statement 14. Conditions: none (equations, each by computation). -/
import Derived.Test.YtkbephbhajplhaaDoorCyHa
import Derived.Test.YtkbephbhajplhaaDoorCyAw
namespace Go.Proofs.YtkbephbhajplhaaDoor
open Go Go.Gh Go.Proofs
end Go.Proofs.YtkbephbhajplhaaDoor
/- CycleWider: with a wider Gap no Number is narrower, and no fewer years can be the wreck. Conditions: none. -/
namespace Go.Proofs.YtkbephbhajplhaaDoor
open Go Go.Gh Go.Proofs
theorem nums_sub {s z : Se} (h : Alv s) (hz : Alv z) (hl : s.1.length = z.1.length) (hsub : ∀ t ∈ truthsR s 0, t ∈ truthsR z 0) (p : Nat) {q : Nat} (hq : q < s.1.length) : (numsP z p q).1 ≤ (numsP s p q).1 ∧ (numsP s p q).2.1 ≤ (numsP z p q).2.1 := by
 obtain ⟨⟨t, a1, e1⟩, ⟨u, a2, e2⟩, _⟩ := h.nums p hq
 obtain ⟨_, _, all, _⟩ := hz.nums p (q := q) (by omega)
 have b1 := all t (hsub t a1)
 have b2 := all u (hsub u a2)
 omega
theorem wreck_sub {A B : List (List Int)} (hsub : ∀ t ∈ A, t ∈ B) (x : Sp) (seen n : Nat) : ∀ v ∈ numsL (fun i => A.any fun t => metAt x seen t i) n, v ∈ numsL (fun i => B.any fun t => metAt x seen t i) n := fun v hv => by
 rw [numsL_mem] at hv ⊢
 obtain ⟨m, h1, h2, h3⟩ := hv
 refine ⟨m, h1, ?_, h3⟩
 rw [List.any_eq_true] at h2 ⊢
 obtain ⟨t, ht, hm⟩ := h2
 exact ⟨t, hsub t ht, hm⟩
theorem all_list {l p : List Int} (h : ∀ v ∈ l, v ∈ p) : (l.all fun x => decide (x ∈ p)) = true := by
 rw [List.all_eq_true]
 exact fun x hx => decide_eq_true (h x hx)
theorem allB_gap (s : Se) (c : List Sm) (g : Sp) : ∀ i, allB (s.1, c, g, ()) i = allB s i
 | 0 => rfl
 | i + 1 => by simp only [allB]; rw [allB_gap s c g i]; rfl
end Go.Proofs.YtkbephbhajplhaaDoor
/- The context for CycleMore: appends to a list that may be as long as memory lets it be. Conditions: none. -/
namespace Go.Proofs.YtkbephbhajplhaaDoor
open Go Go.Gh Go.Proofs
noncomputable def cxM : Ctx := { cx58 with big := fun n => Nat.beq n 110039 || Nat.beq n 110042 }
end Go.Proofs.YtkbephbhajplhaaDoor
/- What the ghost comes to: the statement 11. Conditions: none (equations, each by computation). -/
namespace Go.Proofs.YtkbephbhajplhaaDoor
open Go Go.Gh Go.Proofs
def S11 : List Gh.Spec := [{ key := (0, 11, 6, 1), frs := [{ fn := 11, n := 239, regs := [(2, (.dat (.int .u8))), (3, (.ptr 110003 [])), (4, (.ptr 110004 [])), (7, (.ptr 110007 [])), (8, (.dat (.int .i64)))], round := none, defers := [] }], heap := [(110003, .box (.dat tSe) false), (110004, .box (.dat tSm) false), (110007, .box (.agg [(.dat (.slice tSp)), (.row 110039), (.dat tSp)]) false), (110039, .row tSm true)] }]
noncomputable def K11_0 : Kept := { todos := [[.inLoop (cAt Tryd.f11 [1, 1, 1, 1, 0, 1, 0, 0]), .inBlock 0, .code (cAt Tryd.f11 [1, 1, 1, 1, 1])]], cs := [noCodes, noCodes, noCodes, noCodes] }
abbrev GT11 : Type := (n : Nat) → Kept → denK (specAt S11 n) → Option (denL [.bool])
theorem E11 (G : GT11) (t0 : Se) (t1 : Sm) (t2 : Int) : enter cxM S11 [.bool] 6000 some G 11 [tSe, tSm, (.int .u8)] (t0, (t1, (t2, ()))) =
  bif decide (List.length (Prod.fst (Prod.snd t0)) ≤ 4398046511104) then
 bif decide (List.length (Prod.fst (Prod.snd t0)) + List.length (List.set (List.replicate 1 (0, 0, (0, 0, ()), ())) 0 t1) ≤ 4398046511104) then
  Option.bind (F51 (t0, ())) fun (y : Bool × Unit) =>
   bif !Prod.fst y then Option.bind (F23 ()) fun (y : Bool × Unit) => some (Prod.fst y, ())
   else
    Option.bind (F51 ((Prod.fst t0, Prod.fst (Prod.snd t0) ++ List.set (List.replicate 1 (0, 0, (0, 0, ()), ())) 0 t1, Prod.fst (Prod.snd (Prod.snd t0)), ()), ())) fun (y : Bool × Unit) =>
     bif !Prod.fst y then Option.bind (F23 ()) fun (y : Bool × Unit) => some (Prod.fst y, ()) else G 0 K11_0 (((t2, (), (), (), 0, ()), ()), t0, t1, (Prod.fst t0, (), Prod.fst (Prod.snd (Prod.snd t0)), ()), Prod.fst (Prod.snd t0) ++ List.set (List.replicate 1 (0, 0, (0, 0, ()), ())) 0 t1, ())
 else none
 else none := by kernel_rfl
theorem Q11_0 (G : GT11) (t2 : Int) (t8 : Int) (h0 : Se) (h1 : Sm) (h2_0 : (List Sp)) (h2_2 : Sp) (h3 : (List Sm)) : seg cxM S11 [.bool] 6000 some G 0 K11_0 (((t2, ((), ((), ((), (t8, ()))))), ()), (h0, (h1, ((h2_0, ((), (h2_2, ()))), (h3, ()))))) =
  bif decide (t8 < (↑(List.length (Prod.fst h0)) : Int)) then
 Option.bind (F19 (h0, t8, ())) fun (y : Sp × Int × Unit) =>
  Option.bind (F19 ((h2_0, h3, h2_2, ()), t8, ())) fun (y_1 : Sp × Int × Unit) =>
   Option.bind (F24 (h0, t8, ())) fun (y_2 : Int × Int × Int × Unit) =>
    Option.bind (F24 ((h2_0, h3, h2_2, ()), t8, ())) fun (y_3 : Int × Int × Int × Unit) =>
     bif Prod.fst (Prod.snd y) != 0 then some (false, ())
     else
      bif Prod.fst (Prod.snd y_1) != 0 then some (false, ())
      else
       bif Prod.fst (Prod.snd (Prod.snd y_2)) != 0 then some (false, ())
       else
        bif Prod.fst (Prod.snd (Prod.snd y_3)) != 0 then some (false, ())
        else
         Option.bind (F57 (Prod.fst y_1, Prod.fst y, ())) fun (y : Bool × Unit) =>
          bif !Prod.fst y then some (false, ())
          else
           bif Prod.fst y_2 != 0 then
            bif Prod.fst y_2 != Prod.fst y_3 then some (false, ())
            else bif Prod.fst (Prod.snd y_2) != 0 then bif Prod.fst (Prod.snd y_2) != Prod.fst (Prod.snd y_3) then some (false, ()) else G 0 K11_0 (((t2, (), (), (), IntKind.wrap IntKind.i64 (t8 + 1), ()), ()), h0, h1, (h2_0, (), h2_2, ()), h3, ()) else G 0 K11_0 (((t2, (), (), (), IntKind.wrap IntKind.i64 (t8 + 1), ()), ()), h0, h1, (h2_0, (), h2_2, ()), h3, ())
           else bif Prod.fst (Prod.snd y_2) != 0 then bif Prod.fst (Prod.snd y_2) != Prod.fst (Prod.snd y_3) then some (false, ()) else G 0 K11_0 (((t2, (), (), (), IntKind.wrap IntKind.i64 (t8 + 1), ()), ()), h0, h1, (h2_0, (), h2_2, ()), h3, ()) else G 0 K11_0 (((t2, (), (), (), IntKind.wrap IntKind.i64 (t8 + 1), ()), ()), h0, h1, (h2_0, (), h2_2, ()), h3, ())
 else
 Option.bind (F21 (h0, 0, IntKind.wrap IntKind.i64 ((↑(List.length (Prod.fst h0)) : Int) - 1), ())) fun (y : Sp × Sp × Int × Unit) =>
  Option.bind (F21 ((h2_0, h3, h2_2, ()), 0, IntKind.wrap IntKind.i64 ((↑(List.length (Prod.fst h0)) : Int) - 1), ())) fun (y_1 : Sp × Sp × Int × Unit) =>
   bif Prod.fst (Prod.snd (Prod.snd y)) != 0 then some (false, ())
   else
    bif Prod.fst (Prod.snd (Prod.snd y_1)) != 0 then some (false, ())
    else
     Option.bind (F45 (Prod.fst y, ())) fun (y_2 : Bool × Unit) =>
      bif !Prod.fst y_2 then some (false, ())
      else
       Option.bind (F45 (Prod.fst (Prod.snd y), ())) fun (y_3 : Bool × Unit) =>
        bif !Prod.fst y_3 then some (false, ())
        else
         Option.bind (F45 (Prod.fst y_1, ())) fun (y_4 : Bool × Unit) =>
          bif !Prod.fst y_4 then some (false, ())
          else
           Option.bind (F45 (Prod.fst (Prod.snd y_1), ())) fun (y_5 : Bool × Unit) =>
            bif !Prod.fst y_5 then some (false, ())
            else
             Option.bind (F48 (Prod.fst y_1, Prod.fst y, ())) fun (y_6 : Bool × Unit) =>
              bif Prod.fst y_6 then some (false, ())
              else
               Option.bind (F48 (Prod.fst (Prod.snd y), Prod.fst (Prod.snd y_1), ())) fun (y : Bool × Unit) =>
                bif Prod.fst y then some (false, ())
                else
                 Option.bind (F28 (h0, ())) fun (y : Sp × Int × Unit) =>
                  Option.bind (F28 ((h2_0, h3, h2_2, ()), ())) fun (y_7 : Sp × Int × Unit) =>
                   bif Prod.fst (Prod.snd y_7) == 0 then
                    bif Prod.fst (Prod.snd y) != 0 then some (false, ())
                    else
                     Option.bind (F57 (Prod.fst y_7, Prod.fst y, ())) fun (y : Bool × Unit) =>
                      bif !Prod.fst y then some (false, ())
                      else
                       Option.bind (F36 (Int.tmod (Prod.fst (Prod.fst (Prod.snd (Prod.snd h1)))) 50, 60, ())) fun (y : Sp × Unit) =>
                        Option.bind (F30 (h0, Prod.fst y, Int.tmod (IntKind.wrap IntKind.i64 t2) 3, ())) fun (y : List Int × Int × Unit) =>
                         Option.bind (F36 (Int.tmod (Prod.fst (Prod.fst (Prod.snd (Prod.snd h1)))) 50, 60, ())) fun (y_8 : Sp × Unit) =>
                          Option.bind (F30 ((h2_0, h3, h2_2, ()), Prod.fst y_8, Int.tmod (IntKind.wrap IntKind.i64 t2) 3, ())) fun (y_9 : List Int × Int × Unit) =>
                           bif Prod.fst (Prod.snd y) == 0 then bif Prod.fst (Prod.snd y_9) == 0 then Option.bind (F58 (Prod.fst y_9, Prod.fst y, ())) fun (y : Bool × Unit) => bif Prod.fst y then Option.bind (F23 ()) fun (y : Bool × Unit) => some (Prod.fst y, ()) else some (false, ()) else some (false, ()) else some (false, ())
                   else
                    Option.bind (F36 (Int.tmod (Prod.fst (Prod.fst (Prod.snd (Prod.snd h1)))) 50, 60, ())) fun (y : Sp × Unit) =>
                     Option.bind (F30 (h0, Prod.fst y, Int.tmod (IntKind.wrap IntKind.i64 t2) 3, ())) fun (y : List Int × Int × Unit) =>
                      Option.bind (F36 (Int.tmod (Prod.fst (Prod.fst (Prod.snd (Prod.snd h1)))) 50, 60, ())) fun (y_8 : Sp × Unit) =>
                       Option.bind (F30 ((h2_0, h3, h2_2, ()), Prod.fst y_8, Int.tmod (IntKind.wrap IntKind.i64 t2) 3, ())) fun (y_9 : List Int × Int × Unit) =>
                        bif Prod.fst (Prod.snd y) == 0 then bif Prod.fst (Prod.snd y_9) == 0 then Option.bind (F58 (Prod.fst y_9, Prod.fst y, ())) fun (y : Bool × Unit) => bif Prod.fst y then Option.bind (F23 ()) fun (y : Bool × Unit) => some (Prod.fst y, ()) else some (false, ()) else some (false, ()) else some (false, ()) := by kernel_rfl
noncomputable def F11 : denL [tSe, tSm, (.int .u8)] → Option (denL [.bool]) := ghost cxM S11 6000 11 [tSe, tSm, (.int .u8)] [.bool]
noncomputable abbrev T11_0 (t2 : Int) (t8 : Int) (h0 : Se) (h1 : Sm) (h2_0 : (List Sp)) (h2_2 : Sp) (h3 : (List Sm)) (f : Nat) : Option (denL [.bool]) := iter cxM S11 [.bool] 6000 f 0 K11_0 (((t2, ((), ((), ((), (t8, ()))))), ()), (h0, (h1, ((h2_0, ((), (h2_2, ()))), (h3, ())))))
theorem U11_0 (t2 : Int) (t8 : Int) (h0 : Se) (h1 : Sm) (h2_0 : (List Sp)) (h2_2 : Sp) (h3 : (List Sm)) {y : denL [.bool]} (h : Ev fun k => seg cxM S11 [.bool] 6000 some (iter cxM S11 [.bool] 6000 k) 0 K11_0 (((t2, ((), ((), ((), (t8, ()))))), ()), (h0, (h1, ((h2_0, ((), (h2_2, ()))), (h3, ()))))) = some y) : Ev fun k => T11_0 t2 t8 h0 h1 h2_0 h2_2 h3 k = some y := iter_ev h
theorem R11_0 (t2 : Int) (t8 : Int) (h0 : Se) (h1 : Sm) (h2_0 : (List Sp)) (h2_2 : Sp) (h3 : (List Sm)) {y : denL [.bool]} (h : Ev fun k =>
 (bif decide (t8 < (↑(List.length (Prod.fst h0)) : Int)) then
 Option.bind (F19 (h0, t8, ())) fun (y : Sp × Int × Unit) =>
   Option.bind (F19 ((h2_0, h3, h2_2, ()), t8, ())) fun (y_1 : Sp × Int × Unit) =>
    Option.bind (F24 (h0, t8, ())) fun (y_2 : Int × Int × Int × Unit) =>
     Option.bind (F24 ((h2_0, h3, h2_2, ()), t8, ())) fun (y_3 : Int × Int × Int × Unit) =>
      bif Prod.fst (Prod.snd y) != 0 then some (false, ())
      else
       bif Prod.fst (Prod.snd y_1) != 0 then some (false, ())
       else
        bif Prod.fst (Prod.snd (Prod.snd y_2)) != 0 then some (false, ())
        else
         bif Prod.fst (Prod.snd (Prod.snd y_3)) != 0 then some (false, ())
         else
          Option.bind (F57 (Prod.fst y_1, Prod.fst y, ())) fun (y : Bool × Unit) =>
           bif !Prod.fst y then some (false, ())
           else
            bif Prod.fst y_2 != 0 then
             bif Prod.fst y_2 != Prod.fst y_3 then some (false, ())
             else bif Prod.fst (Prod.snd y_2) != 0 then bif Prod.fst (Prod.snd y_2) != Prod.fst (Prod.snd y_3) then some (false, ()) else T11_0 t2 (IntKind.wrap IntKind.i64 (t8 + 1)) h0 h1 h2_0 h2_2 h3 k else T11_0 t2 (IntKind.wrap IntKind.i64 (t8 + 1)) h0 h1 h2_0 h2_2 h3 k
            else bif Prod.fst (Prod.snd y_2) != 0 then bif Prod.fst (Prod.snd y_2) != Prod.fst (Prod.snd y_3) then some (false, ()) else T11_0 t2 (IntKind.wrap IntKind.i64 (t8 + 1)) h0 h1 h2_0 h2_2 h3 k else T11_0 t2 (IntKind.wrap IntKind.i64 (t8 + 1)) h0 h1 h2_0 h2_2 h3 k
 else
 Option.bind (F21 (h0, 0, IntKind.wrap IntKind.i64 ((↑(List.length (Prod.fst h0)) : Int) - 1), ())) fun (y : Sp × Sp × Int × Unit) =>
   Option.bind (F21 ((h2_0, h3, h2_2, ()), 0, IntKind.wrap IntKind.i64 ((↑(List.length (Prod.fst h0)) : Int) - 1), ())) fun (y_1 : Sp × Sp × Int × Unit) =>
    bif Prod.fst (Prod.snd (Prod.snd y)) != 0 then some (false, ())
    else
     bif Prod.fst (Prod.snd (Prod.snd y_1)) != 0 then some (false, ())
     else
      Option.bind (F45 (Prod.fst y, ())) fun (y_2 : Bool × Unit) =>
       bif !Prod.fst y_2 then some (false, ())
       else
        Option.bind (F45 (Prod.fst (Prod.snd y), ())) fun (y_3 : Bool × Unit) =>
         bif !Prod.fst y_3 then some (false, ())
         else
          Option.bind (F45 (Prod.fst y_1, ())) fun (y_4 : Bool × Unit) =>
           bif !Prod.fst y_4 then some (false, ())
           else
            Option.bind (F45 (Prod.fst (Prod.snd y_1), ())) fun (y_5 : Bool × Unit) =>
             bif !Prod.fst y_5 then some (false, ())
             else
              Option.bind (F48 (Prod.fst y_1, Prod.fst y, ())) fun (y_6 : Bool × Unit) =>
               bif Prod.fst y_6 then some (false, ())
               else
                Option.bind (F48 (Prod.fst (Prod.snd y), Prod.fst (Prod.snd y_1), ())) fun (y : Bool × Unit) =>
                 bif Prod.fst y then some (false, ())
                 else
                  Option.bind (F28 (h0, ())) fun (y : Sp × Int × Unit) =>
                   Option.bind (F28 ((h2_0, h3, h2_2, ()), ())) fun (y_7 : Sp × Int × Unit) =>
                    bif Prod.fst (Prod.snd y_7) == 0 then
                     bif Prod.fst (Prod.snd y) != 0 then some (false, ())
                     else
                      Option.bind (F57 (Prod.fst y_7, Prod.fst y, ())) fun (y : Bool × Unit) =>
                       bif !Prod.fst y then some (false, ())
                       else
                        Option.bind (F36 (Int.tmod (Prod.fst (Prod.fst (Prod.snd (Prod.snd h1)))) 50, 60, ())) fun (y : Sp × Unit) =>
                         Option.bind (F30 (h0, Prod.fst y, Int.tmod (IntKind.wrap IntKind.i64 t2) 3, ())) fun (y : List Int × Int × Unit) =>
                          Option.bind (F36 (Int.tmod (Prod.fst (Prod.fst (Prod.snd (Prod.snd h1)))) 50, 60, ())) fun (y_8 : Sp × Unit) =>
                           Option.bind (F30 ((h2_0, h3, h2_2, ()), Prod.fst y_8, Int.tmod (IntKind.wrap IntKind.i64 t2) 3, ())) fun (y_9 : List Int × Int × Unit) =>
                            bif Prod.fst (Prod.snd y) == 0 then bif Prod.fst (Prod.snd y_9) == 0 then Option.bind (F58 (Prod.fst y_9, Prod.fst y, ())) fun (y : Bool × Unit) => bif Prod.fst y then Option.bind (F23 ()) fun (y : Bool × Unit) => some (Prod.fst y, ()) else some (false, ()) else some (false, ()) else some (false, ())
                    else
                     Option.bind (F36 (Int.tmod (Prod.fst (Prod.fst (Prod.snd (Prod.snd h1)))) 50, 60, ())) fun (y : Sp × Unit) =>
                      Option.bind (F30 (h0, Prod.fst y, Int.tmod (IntKind.wrap IntKind.i64 t2) 3, ())) fun (y : List Int × Int × Unit) =>
                       Option.bind (F36 (Int.tmod (Prod.fst (Prod.fst (Prod.snd (Prod.snd h1)))) 50, 60, ())) fun (y_8 : Sp × Unit) =>
                        Option.bind (F30 ((h2_0, h3, h2_2, ()), Prod.fst y_8, Int.tmod (IntKind.wrap IntKind.i64 t2) 3, ())) fun (y_9 : List Int × Int × Unit) =>
                         bif Prod.fst (Prod.snd y) == 0 then bif Prod.fst (Prod.snd y_9) == 0 then Option.bind (F58 (Prod.fst y_9, Prod.fst y, ())) fun (y : Bool × Unit) => bif Prod.fst y then Option.bind (F23 ()) fun (y : Bool × Unit) => some (Prod.fst y, ()) else some (false, ()) else some (false, ()) else some (false, ()) : Option (denL [.bool])) = some y) : Ev fun k => T11_0 t2 t8 h0 h1 h2_0 h2_2 h3 k = some y := U11_0 _ _ _ _ _ _ _ (Ev.eq (fun _ => Q11_0 _ _ _ _ _ _ _ _) h)
theorem N11 (t0 : Se) (t1 : Sm) (t2 : Int) {y : denL [.bool]} (h : Ev fun k =>
 (bif decide (List.length (Prod.fst (Prod.snd t0)) ≤ 4398046511104) then
 bif decide (List.length (Prod.fst (Prod.snd t0)) + List.length (List.set (List.replicate 1 (0, 0, (0, 0, ()), ())) 0 t1) ≤ 4398046511104) then
   Option.bind (F51 (t0, ())) fun (y : Bool × Unit) =>
    bif !Prod.fst y then Option.bind (F23 ()) fun (y : Bool × Unit) => some (Prod.fst y, ())
    else
     Option.bind (F51 ((Prod.fst t0, Prod.fst (Prod.snd t0) ++ List.set (List.replicate 1 (0, 0, (0, 0, ()), ())) 0 t1, Prod.fst (Prod.snd (Prod.snd t0)), ()), ())) fun (y : Bool × Unit) =>
      bif !Prod.fst y then Option.bind (F23 ()) fun (y : Bool × Unit) => some (Prod.fst y, ()) else T11_0 t2 0 t0 t1 (Prod.fst t0) (Prod.fst (Prod.snd (Prod.snd t0))) (Prod.fst (Prod.snd t0) ++ List.set (List.replicate 1 (0, 0, (0, 0, ()), ())) 0 t1) k
 else none
 else none : Option (denL [.bool])) = some y) : F11 (t0, (t1, (t2, ()))) = some y := ghost_eq (Ev.eq (fun _ => E11 _ _ _ _) h)
end Go.Proofs.YtkbephbhajplhaaDoor
/- Maxima of truths, and how far they are apart. Conditions: as each lemma states. -/
namespace Go.Proofs.YtkbephbhajplhaaDoor
open Go Go.Gh Go.Proofs
end Go.Proofs.YtkbephbhajplhaaDoor
/- CycleMore: with one more sum nothing is wider. Conditions: the series has fewer than 4398046511104 sums. -/
namespace Go.Proofs.YtkbephbhajplhaaDoor
open Go Go.Gh Go.Proofs
def moreP (s : Se) (c : Sm) : Se := (s.1, s.2.1 ++ [c], s.2.2.1, ())
theorem more_truth {s : Se} {c : Sm} {t : List Int} (h : t ∈ truthsR (moreP s c) 0) : t ∈ truthsR s 0 := by
 unfold truthsR at h ⊢
 rw [List.mem_filter] at h ⊢
 refine ⟨?_, ?_⟩
 ·have := allB_gap s (s.2.1 ++ [c]) s.2.2.1 s.1.length
  exact this ▸ h.1
 ·have h2 := h.2
  unfold okAll at h2 ⊢
  rw [Bool.and_eq_true, List.all_eq_true] at h2 ⊢
  refine ⟨h2.1, fun k hk => ?_⟩
  have hk' := List.mem_range.1 hk
  have h3 := h2.2 k (List.mem_range.2 (by show k < (s.2.1 ++ [c]).length; rw [List.length_append]; omega))
  unfold okSumR at h3 ⊢
  have e : (moreP s c).2.1.getD k sm0 = s.2.1.getD k sm0 := by
   show (s.2.1 ++ [c]).getD k sm0 = _
   rw [getD_lt (by rw [List.length_append]; omega), getD_lt hk', List.getElem_append_left hk']
  rw [e] at h3
  exact h3
theorem set_sub {R R' : List (List Int)} (hR : R ≠ []) (hR' : R' ≠ []) (h : ∀ t ∈ R', t ∈ R) {p : List Int → Bool} (hm : setB R p ≠ 0) : setB R' p = setB R p := by
 rcases setB_in R p with e | e | e
 ·exact absurd e hm
 ·rw [e, setB_must.2 fun t ht => setB_must.1 e t (h t ht)]
 ·rw [e, (setB_never hR').2 fun t ht => (setB_never hR).1 e t (h t ht)]
theorem L11 (s : Se) (c : Sm) (seen : Int) (hs0 : 0 ≤ seen) (hs1 : seen ≤ 255) (hlen : s.2.1.length < 4398046511104) : F11 ((s, c, seen, ()) : Se × Sm × Int × Unit) = some (true, ()) := by
 obtain ⟨v, rfl⟩ := Int.eq_ofNat_of_zero_le hs0
 refine N11 _ _ _ ?_
 rw [one_set, dec_t (show s.2.1.length ≤ 4398046511104 by omega), dec_t (show s.2.1.length + [c].length ≤ 4398046511104 by simp only [List.length_cons, List.length_nil]; omega), L51]
 simp only [cond_true, Option.bind_some]
 cases ha : alvB s with
 | false =>
  rw [L23]
  exact Ev.all fun _ => by first | rfl | trivial
 | true =>
  change Ev fun k => (bif !true then Option.bind (F23 ()) fun y => some (y.1, ()) else Option.bind (F51 (moreP s c, ())) fun y => bif !y.1 then Option.bind (F23 ()) fun y => some (y.1, ()) else T11_0 (v : Int) 0 s c (moreP s c).1 (moreP s c).2.2.1 (moreP s c).2.1 k) = some (true, ())
  rw [L51]
  cases hb : alvB (moreP s c) with
  | false =>
   rw [L23]
   exact Ev.all fun _ => by first | rfl | trivial
  | true =>
   have h := alvB_iff.1 ha
   have hz := alvB_iff.1 hb
   have h7 := h.ok.hi
   have h3 := h.ok.lo
   have hsub : ∀ t ∈ truthsR (moreP s c) 0, t ∈ truthsR s 0 := fun t ht => more_truth ht
   have hzl : (moreP s c).1.length = s.1.length := rfl
   have hc : 0 ≤ c.2.2.1.1 ∧ c.2.2.1.1 ≤ 999 := by
    have := hz.ok.sums s.2.1.length (by show s.2.1.length < (s.2.1 ++ [c]).length; rw [List.length_append]; simp)
    have e : (moreP s c).2.1.getD s.2.1.length sm0 = c := by
     show (s.2.1 ++ [c]).getD s.2.1.length sm0 = c
     rw [getD_lt (by simp)]; simp
    rw [e] at this
    omega
   have hzg : (moreP s c).2.2.1 = s.2.2.1 := rfl
   have hze : ((moreP s c).1, (moreP s c).2.1, (moreP s c).2.2.1, ()) = moreP s c := rfl
   simp only [Bool.not_true, cond_false, Option.bind_some]
   generalize moreP s c = z at *
   have key : ∀ (d i : Nat), i + d = s.1.length → Ev fun k => T11_0 (v : Int) (i : Int) s c z.1 z.2.2.1 z.2.1 k = some (true, ()) := by
    intro d
    induction d with
    | zero =>
     intro i hi
     refine R11_0 _ _ _ _ _ _ _ ?_
     have e0 : IntKind.wrap IntKind.i64 ((s.1.length : Int) - 1) = ((s.1.length - 1 : Nat) : Int) := wrap_pred (by omega) (by omega)
     obtain ⟨last, hlast⟩ : ∃ last, last = s.1.length - 1 := ⟨_, rfl⟩
     rw [hze, dec_f (by omega), e0, ← hlast]
     simp only [cond_false]
     rw [show F21 ((s, 0, (last : Int), ()) : Se × Int × Int × Unit) = some (meanP s ((0 : Nat) : Int) (last : Int)) from L21 s 0 last, show F21 ((z, 0, (last : Int), ()) : Se × Int × Int × Unit) = some (meanP z ((0 : Nat) : Int) (last : Int)) from L21 z 0 last, h.mean (by omega) (by omega), hz.mean (by omega) (by omega)]
     simp only [Option.bind_some, bne_self_eq_false, cond_false]
     obtain ⟨_, _, _, r1, r2, r3⟩ := h.nums 0 (q := last) (by omega)
     obtain ⟨_, _, _, s1, s2, s3⟩ := hz.nums 0 (q := last) (by omega)
     have hn := nums_sub hz h hzl hsub 0 (q := last) (by omega)
     have d1 : (1 : Int) ≤ ((last - 0 + 1 : Nat) : Int) ∧ ((last - 0 + 1 : Nat) : Int) ≤ 7 := by omega
     have o1 := low_ok (a := (numsP s 0 last).1) ⟨r1, by omega⟩ d1
     have o2 := low_ok (a := (numsP s 0 last).2.1) ⟨by omega, r3⟩ d1
     have o3 := low_ok (a := (numsP z 0 last).1) ⟨s1, by omega⟩ d1
     have o4 := low_ok (a := (numsP z 0 last).2.1) ⟨by omega, s3⟩ d1
     have f1 : ¬ ((lowP (numsP z 0 last).1 ((last - 0 + 1 : Nat) : Int)).1 * (lowP (numsP s 0 last).1 ((last - 0 + 1 : Nat) : Int)).2.1 < (lowP (numsP s 0 last).1 ((last - 0 + 1 : Nat) : Int)).1 * (lowP (numsP z 0 last).1 ((last - 0 + 1 : Nat) : Int)).2.1) := by
      rw [low_lt ⟨s1, by omega⟩ d1 ⟨r1, by omega⟩ d1]
      exact Int.not_lt.2 (Int.mul_le_mul_of_nonneg_right hn.1 (by omega))
     have f2 : ¬ ((lowP (numsP s 0 last).2.1 ((last - 0 + 1 : Nat) : Int)).1 * (lowP (numsP z 0 last).2.1 ((last - 0 + 1 : Nat) : Int)).2.1 < (lowP (numsP z 0 last).2.1 ((last - 0 + 1 : Nat) : Int)).1 * (lowP (numsP s 0 last).2.1 ((last - 0 + 1 : Nat) : Int)).2.1) := by
      rw [low_lt ⟨by omega, r3⟩ d1 ⟨by omega, s3⟩ d1]
      exact Int.not_lt.2 (Int.mul_le_mul_of_nonneg_right hn.2 (by omega))
     rw [L45 o1.1 o1.2.1, L45 o2.1 o2.2.1, L45 o3.1 o3.2.1, L45 o4.1 o4.2.1]
     simp only [Option.bind_some, Bool.not_true, cond_false]
     rw [L48 o3.1 o3.2.1 o1.1 o1.2.1, dec_f f1, L48 o2.1 o2.2.1 o4.1 o4.2.1, dec_f f2, L28, L28]
     simp only [Option.bind_some, cond_false]
     have tm : ∀ p q : Nat, Int.tmod (p : Int) (q : Int) = ((p % q : Nat) : Int) := fun p q => by rw [Int.tmod_eq_emod_of_nonneg (by omega)]; simp
     have ev : Int.tmod (IntKind.wrap IntKind.i64 (v : Int)) 3 = ((v % 3 : Nat) : Int) := by rw [wrap_id (by omega) (by omega)]; exact tm v 3
     obtain ⟨w, hw⟩ := Int.eq_ofNat_of_zero_le hc.1
     have ew : Int.tmod c.2.2.1.1 50 = ((w % 50 : Nat) : Int) := by rw [hw]; exact tm w 50
     have l3 : v % 3 ≤ 2 := by omega
     have l50 : w % 50 ≤ 49 := by omega
     have hend : endsP (((w % 50 : Nat) : Int), 60, ()) 0 99 = 0 := endsP_zero.2 ⟨by simp only; omega, by simp only; omega, by simp only; omega⟩
     have n1 := numsL_len (fun i => (truthsR s 0).any fun t => metAt (((w % 50 : Nat) : Int), 60, ()) (v % 3) t i) s.1.length
     have n2 := numsL_len (fun i => (truthsR z 0).any fun t => metAt (((w % 50 : Nat) : Int), 60, ()) (v % 3) t i) s.1.length
     have hfin : ∀ {y : Bool × Unit}, y = (true, ()) → Ev fun _ : Nat => (Option.bind (F36 ((((w % 50 : Nat) : Int), 60, ()) : Int × Int × Unit)) fun (y : Sp × Unit) => Option.bind (F30 (s, y.1, ((v % 3 : Nat) : Int), ())) fun (y : List Int × Int × Unit) => Option.bind (F36 ((((w % 50 : Nat) : Int), 60, ()) : Int × Int × Unit)) fun (y_8 : Sp × Unit) => Option.bind (F30 (z, y_8.1, ((v % 3 : Nat) : Int), ())) fun (y_9 : List Int × Int × Unit) =>
       bif y.2.1 == 0 then bif y_9.2.1 == 0 then Option.bind (F58 (y_9.1, y.1, ())) fun (y : Bool × Unit) => bif y.1 then Option.bind (F23 ()) fun (y : Bool × Unit) => some (y.1, ()) else some (false, ()) else some (false, ()) else some (false, ())) = some y := by
      rintro y rfl
      rw [L36]
      simp only [Option.bind_some]
      rw [L30, L30, h.wreck _ l3 hend, hz.wreck _ l3 hend, hzl]
      simp only [Option.bind_some, beq_self_eq_true, cond_true]
      rw [L58 _ _ (by omega) (by omega), all_list (wreck_sub hsub _ _ _), L23]
      exact Ev.all fun _ => by first | rfl | trivial
     rw [ev, ew]
     rcases spanH hz.nextsR_bd with ⟨_, e⟩ | ⟨x, e, hx⟩
     ·rw [hz.next, e]
      exact hfin rfl
     ·have hms : ∀ u, u ∈ nextsR z → u ∈ nextsR s := fun u hu => by
       unfold nextsR at hu ⊢
       rw [List.mem_flatMap] at hu ⊢
       obtain ⟨t, ht, hu⟩ := hu
       refine ⟨t, hsub t ht, ?_⟩
       have e2 : z.2.2.1 = s.2.2.1 := by
        exact hzg
       unfold nextsL okNext at hu ⊢
       rw [e2] at hu
       exact hu
      rcases spanH h.nextsR_bd with ⟨e3, _⟩ | ⟨x', e', hx'⟩
      ·have := hms _ hx.lo
       rw [e3] at this; simp at this
      ·rw [hz.next, h.next, e, e']
       have g1 := hx'.all _ (hms _ hx.lo)
       have g2 := hx'.all _ (hms _ hx.hi)
       simp only [beq_self_eq_true, cond_true, bne_self_eq_false, cond_false]
       rw [L57, dec_t (show x.1 ≥ x'.1 from g1.1), dec_t g2.2]
       exact hfin rfl
    | succ d ih =>
     intro i hi
     have ih := ih (i + 1) (by omega)
     refine R11_0 _ _ _ _ _ _ _ ?_
     have hn := nums_sub hz h hzl hsub i (q := i) (by omega)
     have hv : turnsP s (i : Int) = (setB (truthsR s 0) (isTop s.1.length · i), setB (truthsR s 0) (isBot s.1.length · i), 0, ()) := h.turns (by omega)
     have hv2 : turnsP z (i : Int) = (setB (truthsR z 0) (isTop z.1.length · i), setB (truthsR z 0) (isBot z.1.length · i), 0, ()) := hz.turns (by omega)
     rw [hzl] at hv2
     have sT := @set_sub _ _ h.some hz.some hsub (isTop s.1.length · i)
     have sB := @set_sub _ _ h.some hz.some hsub (isBot s.1.length · i)
     rw [hze, dec_t (show (i : Int) < (s.1.length : Int) by omega), L19, L19, L24, L24, h.number (by omega), hz.number (by omega), hv, hv2, wrap_succ (n := i) (by omega)]
     simp only [cond_true, Option.bind_some, bne_self_eq_false, cond_false]
     rw [L57, dec_t (show (numsP z i i).1 ≥ (numsP s i i).1 from hn.1), dec_t hn.2]
     generalize setB (truthsR s 0) (isTop s.1.length · i) = a at *
     generalize setB (truthsR s 0) (isBot s.1.length · i) = b at *
     generalize setB (truthsR z 0) (isTop s.1.length · i) = a' at *
     generalize setB (truthsR z 0) (isBot s.1.length · i) = b' at *
     simp only [Option.bind_some, Bool.and_self, Bool.not_true, cond_false]
     by_cases ea : a = 0
     ·subst ea
      by_cases eb : b = 0
      ·subst eb; exact ih
      ·rw [show (b != 0) = true from bne_iff_ne.2 eb, sB eb, show (b != b) = false from by simp]
       exact ih
     ·rw [show (a != 0) = true from bne_iff_ne.2 ea, sT ea, show (a != a) = false from by simp]
      by_cases eb : b = 0
      ·subst eb; exact ih
      ·rw [show (b != 0) = true from bne_iff_ne.2 eb, sB eb, show (b != b) = false from by simp]
       exact ih
   exact key s.1.length 0 (by omega)
end Go.Proofs.YtkbephbhajplhaaDoor
