/- What the ghost comes to: the statement 15. Conditions: none (equations, each by computation). -/
import Derived.Test.YtkbephbhajplhaaDoorCyHa
import Derived.Test.YtkbephbhajplhaaDoorCyAw
namespace Go.Proofs.YtkbephbhajplhaaDoor
open Go Go.Gh Go.Proofs
def S15 : List Gh.Spec := []
abbrev GT15 : Type := (n : Nat) → Kept → denK (specAt S15 n) → Option (denL [.bool])
theorem E15 (G : GT15) (t0 : Se) (t1 : (List Int)) : enter cx58 S15 [.bool] 6000 some G 15 [tSe, (.arr 3 (.int .u8))] (t0, (t1, ())) =
  Option.bind (F51 (t0, ())) fun (y : Bool × Unit) =>
 bif !Prod.fst y then Option.bind (F21 (t0, 0, 0, ())) fun (y : Sp × Sp × Int × Unit) => bif Prod.fst (Prod.snd (Prod.snd y)) != 0 then Option.bind (F23 ()) fun (y : Bool × Unit) => some (Prod.fst y, ()) else some (false, ())
 else
  bif decide (IntKind.wrap IntKind.i64 ((↑(List.length (Prod.fst t0)) : Int) - 1) = 0) then none
  else
   bif decide (IntKind.wrap IntKind.i64 (IntKind.wrap IntKind.i64 ((↑(List.length (Prod.fst t0)) : Int) - 1) - Int.tmod (IntKind.wrap IntKind.i64 (List.getD t1 0 0)) (IntKind.wrap IntKind.i64 ((↑(List.length (Prod.fst t0)) : Int) - 1))) = 0) then none
   else
    bif
      decide
       (IntKind.wrap IntKind.i64
          (IntKind.wrap IntKind.i64
             (IntKind.wrap IntKind.i64 (Int.tmod (IntKind.wrap IntKind.i64 (List.getD t1 0 0)) (IntKind.wrap IntKind.i64 ((↑(List.length (Prod.fst t0)) : Int) - 1)) + 1) +
               Int.tmod (IntKind.wrap IntKind.i64 (List.getD t1 1 0)) (IntKind.wrap IntKind.i64 (IntKind.wrap IntKind.i64 ((↑(List.length (Prod.fst t0)) : Int) - 1) - Int.tmod (IntKind.wrap IntKind.i64 (List.getD t1 0 0)) (IntKind.wrap IntKind.i64 ((↑(List.length (Prod.fst t0)) : Int) - 1))))) -
            Int.tmod (IntKind.wrap IntKind.i64 (List.getD t1 0 0)) (IntKind.wrap IntKind.i64 ((↑(List.length (Prod.fst t0)) : Int) - 1))) =
         0) then
     none
    else
     Option.bind
      (F21
        (t0, Int.tmod (IntKind.wrap IntKind.i64 (List.getD t1 0 0)) (IntKind.wrap IntKind.i64 ((↑(List.length (Prod.fst t0)) : Int) - 1)),
          IntKind.wrap IntKind.i64
           (Int.tmod (IntKind.wrap IntKind.i64 (List.getD t1 0 0)) (IntKind.wrap IntKind.i64 ((↑(List.length (Prod.fst t0)) : Int) - 1)) +
             Int.tmod (IntKind.wrap IntKind.i64 (List.getD t1 2 0))
              (IntKind.wrap IntKind.i64
                (IntKind.wrap IntKind.i64
                   (IntKind.wrap IntKind.i64 (Int.tmod (IntKind.wrap IntKind.i64 (List.getD t1 0 0)) (IntKind.wrap IntKind.i64 ((↑(List.length (Prod.fst t0)) : Int) - 1)) + 1) +
                     Int.tmod (IntKind.wrap IntKind.i64 (List.getD t1 1 0)) (IntKind.wrap IntKind.i64 (IntKind.wrap IntKind.i64 ((↑(List.length (Prod.fst t0)) : Int) - 1) - Int.tmod (IntKind.wrap IntKind.i64 (List.getD t1 0 0)) (IntKind.wrap IntKind.i64 ((↑(List.length (Prod.fst t0)) : Int) - 1))))) -
                  Int.tmod (IntKind.wrap IntKind.i64 (List.getD t1 0 0)) (IntKind.wrap IntKind.i64 ((↑(List.length (Prod.fst t0)) : Int) - 1))))),
          ()))
      fun (y : Sp × Sp × Int × Unit) =>
      Option.bind
       (F21
         (t0,
           IntKind.wrap IntKind.i64
            (IntKind.wrap IntKind.i64
               (Int.tmod (IntKind.wrap IntKind.i64 (List.getD t1 0 0)) (IntKind.wrap IntKind.i64 ((↑(List.length (Prod.fst t0)) : Int) - 1)) +
                 Int.tmod (IntKind.wrap IntKind.i64 (List.getD t1 2 0))
                  (IntKind.wrap IntKind.i64
                    (IntKind.wrap IntKind.i64
                       (IntKind.wrap IntKind.i64 (Int.tmod (IntKind.wrap IntKind.i64 (List.getD t1 0 0)) (IntKind.wrap IntKind.i64 ((↑(List.length (Prod.fst t0)) : Int) - 1)) + 1) +
                         Int.tmod (IntKind.wrap IntKind.i64 (List.getD t1 1 0)) (IntKind.wrap IntKind.i64 (IntKind.wrap IntKind.i64 ((↑(List.length (Prod.fst t0)) : Int) - 1) - Int.tmod (IntKind.wrap IntKind.i64 (List.getD t1 0 0)) (IntKind.wrap IntKind.i64 ((↑(List.length (Prod.fst t0)) : Int) - 1))))) -
                      Int.tmod (IntKind.wrap IntKind.i64 (List.getD t1 0 0)) (IntKind.wrap IntKind.i64 ((↑(List.length (Prod.fst t0)) : Int) - 1))))) +
              1),
           IntKind.wrap IntKind.i64
            (IntKind.wrap IntKind.i64 (Int.tmod (IntKind.wrap IntKind.i64 (List.getD t1 0 0)) (IntKind.wrap IntKind.i64 ((↑(List.length (Prod.fst t0)) : Int) - 1)) + 1) +
              Int.tmod (IntKind.wrap IntKind.i64 (List.getD t1 1 0)) (IntKind.wrap IntKind.i64 (IntKind.wrap IntKind.i64 ((↑(List.length (Prod.fst t0)) : Int) - 1) - Int.tmod (IntKind.wrap IntKind.i64 (List.getD t1 0 0)) (IntKind.wrap IntKind.i64 ((↑(List.length (Prod.fst t0)) : Int) - 1))))),
           ()))
       fun (y_1 : Sp × Sp × Int × Unit) =>
       Option.bind
        (F21
          (t0, Int.tmod (IntKind.wrap IntKind.i64 (List.getD t1 0 0)) (IntKind.wrap IntKind.i64 ((↑(List.length (Prod.fst t0)) : Int) - 1)),
            IntKind.wrap IntKind.i64
             (IntKind.wrap IntKind.i64 (Int.tmod (IntKind.wrap IntKind.i64 (List.getD t1 0 0)) (IntKind.wrap IntKind.i64 ((↑(List.length (Prod.fst t0)) : Int) - 1)) + 1) +
               Int.tmod (IntKind.wrap IntKind.i64 (List.getD t1 1 0)) (IntKind.wrap IntKind.i64 (IntKind.wrap IntKind.i64 ((↑(List.length (Prod.fst t0)) : Int) - 1) - Int.tmod (IntKind.wrap IntKind.i64 (List.getD t1 0 0)) (IntKind.wrap IntKind.i64 ((↑(List.length (Prod.fst t0)) : Int) - 1))))),
            ()))
        fun (y_2 : Sp × Sp × Int × Unit) =>
        Option.bind
         (F21
           (t0,
             IntKind.wrap IntKind.i64
              (Int.tmod (IntKind.wrap IntKind.i64 (List.getD t1 0 0)) (IntKind.wrap IntKind.i64 ((↑(List.length (Prod.fst t0)) : Int) - 1)) +
                Int.tmod (IntKind.wrap IntKind.i64 (List.getD t1 2 0))
                 (IntKind.wrap IntKind.i64
                   (IntKind.wrap IntKind.i64
                      (IntKind.wrap IntKind.i64 (Int.tmod (IntKind.wrap IntKind.i64 (List.getD t1 0 0)) (IntKind.wrap IntKind.i64 ((↑(List.length (Prod.fst t0)) : Int) - 1)) + 1) +
                        Int.tmod (IntKind.wrap IntKind.i64 (List.getD t1 1 0)) (IntKind.wrap IntKind.i64 (IntKind.wrap IntKind.i64 ((↑(List.length (Prod.fst t0)) : Int) - 1) - Int.tmod (IntKind.wrap IntKind.i64 (List.getD t1 0 0)) (IntKind.wrap IntKind.i64 ((↑(List.length (Prod.fst t0)) : Int) - 1))))) -
                     Int.tmod (IntKind.wrap IntKind.i64 (List.getD t1 0 0)) (IntKind.wrap IntKind.i64 ((↑(List.length (Prod.fst t0)) : Int) - 1))))),
             IntKind.wrap IntKind.i64
              (Int.tmod (IntKind.wrap IntKind.i64 (List.getD t1 0 0)) (IntKind.wrap IntKind.i64 ((↑(List.length (Prod.fst t0)) : Int) - 1)) +
                Int.tmod (IntKind.wrap IntKind.i64 (List.getD t1 2 0))
                 (IntKind.wrap IntKind.i64
                   (IntKind.wrap IntKind.i64
                      (IntKind.wrap IntKind.i64 (Int.tmod (IntKind.wrap IntKind.i64 (List.getD t1 0 0)) (IntKind.wrap IntKind.i64 ((↑(List.length (Prod.fst t0)) : Int) - 1)) + 1) +
                        Int.tmod (IntKind.wrap IntKind.i64 (List.getD t1 1 0)) (IntKind.wrap IntKind.i64 (IntKind.wrap IntKind.i64 ((↑(List.length (Prod.fst t0)) : Int) - 1) - Int.tmod (IntKind.wrap IntKind.i64 (List.getD t1 0 0)) (IntKind.wrap IntKind.i64 ((↑(List.length (Prod.fst t0)) : Int) - 1))))) -
                     Int.tmod (IntKind.wrap IntKind.i64 (List.getD t1 0 0)) (IntKind.wrap IntKind.i64 ((↑(List.length (Prod.fst t0)) : Int) - 1))))),
             ()))
         fun (y_3 : Sp × Sp × Int × Unit) =>
         Option.bind
          (F19
            (t0,
              IntKind.wrap IntKind.i64
               (Int.tmod (IntKind.wrap IntKind.i64 (List.getD t1 0 0)) (IntKind.wrap IntKind.i64 ((↑(List.length (Prod.fst t0)) : Int) - 1)) +
                 Int.tmod (IntKind.wrap IntKind.i64 (List.getD t1 2 0))
                  (IntKind.wrap IntKind.i64
                    (IntKind.wrap IntKind.i64
                       (IntKind.wrap IntKind.i64 (Int.tmod (IntKind.wrap IntKind.i64 (List.getD t1 0 0)) (IntKind.wrap IntKind.i64 ((↑(List.length (Prod.fst t0)) : Int) - 1)) + 1) +
                         Int.tmod (IntKind.wrap IntKind.i64 (List.getD t1 1 0)) (IntKind.wrap IntKind.i64 (IntKind.wrap IntKind.i64 ((↑(List.length (Prod.fst t0)) : Int) - 1) - Int.tmod (IntKind.wrap IntKind.i64 (List.getD t1 0 0)) (IntKind.wrap IntKind.i64 ((↑(List.length (Prod.fst t0)) : Int) - 1))))) -
                      Int.tmod (IntKind.wrap IntKind.i64 (List.getD t1 0 0)) (IntKind.wrap IntKind.i64 ((↑(List.length (Prod.fst t0)) : Int) - 1))))),
              ()))
          fun (y_4 : Sp × Int × Unit) =>
          bif Prod.fst (Prod.snd (Prod.snd y)) != 0 then some (false, ())
          else
           bif Prod.fst (Prod.snd (Prod.snd y_1)) != 0 then some (false, ())
           else
            bif Prod.fst (Prod.snd (Prod.snd y_2)) != 0 then some (false, ())
            else
             bif Prod.fst (Prod.snd (Prod.snd y_3)) != 0 then some (false, ())
             else
              bif Prod.fst (Prod.snd y_4) != 0 then some (false, ())
              else
               Option.bind (F45 (Prod.fst y, ())) fun (y_5 : Bool × Unit) =>
                bif !Prod.fst y_5 then some (false, ())
                else
                 Option.bind (F45 (Prod.fst (Prod.snd y), ())) fun (y_6 : Bool × Unit) =>
                  bif !Prod.fst y_6 then some (false, ())
                  else
                   Option.bind (F45 (Prod.fst y_1, ())) fun (y_7 : Bool × Unit) =>
                    bif !Prod.fst y_7 then some (false, ())
                    else
                     Option.bind (F45 (Prod.fst (Prod.snd y_1), ())) fun (y_8 : Bool × Unit) =>
                      bif !Prod.fst y_8 then some (false, ())
                      else
                       Option.bind (F45 (Prod.fst y_2, ())) fun (y_9 : Bool × Unit) =>
                        bif !Prod.fst y_9 then some (false, ())
                        else
                         Option.bind (F45 (Prod.fst (Prod.snd y_2), ())) fun (y_10 : Bool × Unit) =>
                          bif !Prod.fst y_10 then some (false, ())
                          else
                           Option.bind (F48 (Prod.fst y_2, Prod.fst y, ())) fun (y_11 : Bool × Unit) =>
                            bif !Prod.fst y_11 then
                             Option.bind (F48 (Prod.fst (Prod.snd y), Prod.fst (Prod.snd y_2), ())) fun (y : Bool × Unit) =>
                              bif !Prod.fst y then
                               Option.bind (F48 (Prod.fst (Prod.snd y_2), Prod.fst y_2, ())) fun (y : Bool × Unit) =>
                                bif !Prod.fst y then
                                 Option.bind (F37 (Prod.fst (Prod.fst y_4), 1, ())) fun (y : Sp × Unit) =>
                                  bif eqD (Ty.struct [Ty.int IntKind.i64, Ty.int IntKind.i64]) (Prod.fst y_3) (Prod.fst y) then
                                   Option.bind (F37 (Prod.fst (Prod.snd (Prod.fst y_4)), 1, ())) fun (y : Sp × Unit) => bif eqD (Ty.struct [Ty.int IntKind.i64, Ty.int IntKind.i64]) (Prod.fst (Prod.snd y_3)) (Prod.fst y) then Option.bind (F23 ()) fun (y : Bool × Unit) => some (Prod.fst y, ()) else some (false, ())
                                  else some (false, ())
                                else some (false, ())
                              else
                               Option.bind (F48 (Prod.fst (Prod.snd y_1), Prod.fst (Prod.snd y_2), ())) fun (y : Bool × Unit) =>
                                bif !Prod.fst y then
                                 Option.bind (F48 (Prod.fst (Prod.snd y_2), Prod.fst y_2, ())) fun (y : Bool × Unit) =>
                                  bif !Prod.fst y then
                                   Option.bind (F37 (Prod.fst (Prod.fst y_4), 1, ())) fun (y : Sp × Unit) =>
                                    bif eqD (Ty.struct [Ty.int IntKind.i64, Ty.int IntKind.i64]) (Prod.fst y_3) (Prod.fst y) then
                                     Option.bind (F37 (Prod.fst (Prod.snd (Prod.fst y_4)), 1, ())) fun (y : Sp × Unit) => bif eqD (Ty.struct [Ty.int IntKind.i64, Ty.int IntKind.i64]) (Prod.fst (Prod.snd y_3)) (Prod.fst y) then Option.bind (F23 ()) fun (y : Bool × Unit) => some (Prod.fst y, ()) else some (false, ())
                                    else some (false, ())
                                  else some (false, ())
                                else some (false, ())
                            else
                             Option.bind (F48 (Prod.fst y_2, Prod.fst y_1, ())) fun (y_12 : Bool × Unit) =>
                              bif !Prod.fst y_12 then
                               Option.bind (F48 (Prod.fst (Prod.snd y), Prod.fst (Prod.snd y_2), ())) fun (y : Bool × Unit) =>
                                bif !Prod.fst y then
                                 Option.bind (F48 (Prod.fst (Prod.snd y_2), Prod.fst y_2, ())) fun (y : Bool × Unit) =>
                                  bif !Prod.fst y then
                                   Option.bind (F37 (Prod.fst (Prod.fst y_4), 1, ())) fun (y : Sp × Unit) =>
                                    bif eqD (Ty.struct [Ty.int IntKind.i64, Ty.int IntKind.i64]) (Prod.fst y_3) (Prod.fst y) then
                                     Option.bind (F37 (Prod.fst (Prod.snd (Prod.fst y_4)), 1, ())) fun (y : Sp × Unit) => bif eqD (Ty.struct [Ty.int IntKind.i64, Ty.int IntKind.i64]) (Prod.fst (Prod.snd y_3)) (Prod.fst y) then Option.bind (F23 ()) fun (y : Bool × Unit) => some (Prod.fst y, ()) else some (false, ())
                                    else some (false, ())
                                  else some (false, ())
                                else
                                 Option.bind (F48 (Prod.fst (Prod.snd y_1), Prod.fst (Prod.snd y_2), ())) fun (y : Bool × Unit) =>
                                  bif !Prod.fst y then
                                   Option.bind (F48 (Prod.fst (Prod.snd y_2), Prod.fst y_2, ())) fun (y : Bool × Unit) =>
                                    bif !Prod.fst y then
                                     Option.bind (F37 (Prod.fst (Prod.fst y_4), 1, ())) fun (y : Sp × Unit) =>
                                      bif eqD (Ty.struct [Ty.int IntKind.i64, Ty.int IntKind.i64]) (Prod.fst y_3) (Prod.fst y) then
                                       Option.bind (F37 (Prod.fst (Prod.snd (Prod.fst y_4)), 1, ())) fun (y : Sp × Unit) => bif eqD (Ty.struct [Ty.int IntKind.i64, Ty.int IntKind.i64]) (Prod.fst (Prod.snd y_3)) (Prod.fst y) then Option.bind (F23 ()) fun (y : Bool × Unit) => some (Prod.fst y, ()) else some (false, ())
                                      else some (false, ())
                                    else some (false, ())
                                  else some (false, ())
                              else some (false, ()) := by kernel_rfl
noncomputable def F15 : denL [tSe, (.arr 3 (.int .u8))] → Option (denL [.bool]) := ghost cx58 S15 6000 15 [tSe, (.arr 3 (.int .u8))] [.bool]
theorem N15 (t0 : Se) (t1 : (List Int)) {y : denL [.bool]} (h : Ev fun k =>
 (Option.bind (F51 (t0, ())) fun (y : Bool × Unit) =>
 bif !Prod.fst y then Option.bind (F21 (t0, 0, 0, ())) fun (y : Sp × Sp × Int × Unit) => bif Prod.fst (Prod.snd (Prod.snd y)) != 0 then Option.bind (F23 ()) fun (y : Bool × Unit) => some (Prod.fst y, ()) else some (false, ())
 else
   bif decide (IntKind.wrap IntKind.i64 ((↑(List.length (Prod.fst t0)) : Int) - 1) = 0) then none
   else
    bif decide (IntKind.wrap IntKind.i64 (IntKind.wrap IntKind.i64 ((↑(List.length (Prod.fst t0)) : Int) - 1) - Int.tmod (IntKind.wrap IntKind.i64 (List.getD t1 0 0)) (IntKind.wrap IntKind.i64 ((↑(List.length (Prod.fst t0)) : Int) - 1))) = 0) then none
    else
     bif
       decide
        (IntKind.wrap IntKind.i64
           (IntKind.wrap IntKind.i64
              (IntKind.wrap IntKind.i64 (Int.tmod (IntKind.wrap IntKind.i64 (List.getD t1 0 0)) (IntKind.wrap IntKind.i64 ((↑(List.length (Prod.fst t0)) : Int) - 1)) + 1) +
                Int.tmod (IntKind.wrap IntKind.i64 (List.getD t1 1 0)) (IntKind.wrap IntKind.i64 (IntKind.wrap IntKind.i64 ((↑(List.length (Prod.fst t0)) : Int) - 1) - Int.tmod (IntKind.wrap IntKind.i64 (List.getD t1 0 0)) (IntKind.wrap IntKind.i64 ((↑(List.length (Prod.fst t0)) : Int) - 1))))) -
             Int.tmod (IntKind.wrap IntKind.i64 (List.getD t1 0 0)) (IntKind.wrap IntKind.i64 ((↑(List.length (Prod.fst t0)) : Int) - 1))) =
          0) then
      none
     else
      Option.bind
       (F21
         (t0, Int.tmod (IntKind.wrap IntKind.i64 (List.getD t1 0 0)) (IntKind.wrap IntKind.i64 ((↑(List.length (Prod.fst t0)) : Int) - 1)),
           IntKind.wrap IntKind.i64
            (Int.tmod (IntKind.wrap IntKind.i64 (List.getD t1 0 0)) (IntKind.wrap IntKind.i64 ((↑(List.length (Prod.fst t0)) : Int) - 1)) +
              Int.tmod (IntKind.wrap IntKind.i64 (List.getD t1 2 0))
               (IntKind.wrap IntKind.i64
                 (IntKind.wrap IntKind.i64
                    (IntKind.wrap IntKind.i64 (Int.tmod (IntKind.wrap IntKind.i64 (List.getD t1 0 0)) (IntKind.wrap IntKind.i64 ((↑(List.length (Prod.fst t0)) : Int) - 1)) + 1) +
                      Int.tmod (IntKind.wrap IntKind.i64 (List.getD t1 1 0)) (IntKind.wrap IntKind.i64 (IntKind.wrap IntKind.i64 ((↑(List.length (Prod.fst t0)) : Int) - 1) - Int.tmod (IntKind.wrap IntKind.i64 (List.getD t1 0 0)) (IntKind.wrap IntKind.i64 ((↑(List.length (Prod.fst t0)) : Int) - 1))))) -
                   Int.tmod (IntKind.wrap IntKind.i64 (List.getD t1 0 0)) (IntKind.wrap IntKind.i64 ((↑(List.length (Prod.fst t0)) : Int) - 1))))),
           ()))
       fun (y : Sp × Sp × Int × Unit) =>
       Option.bind
        (F21
          (t0,
            IntKind.wrap IntKind.i64
             (IntKind.wrap IntKind.i64
                (Int.tmod (IntKind.wrap IntKind.i64 (List.getD t1 0 0)) (IntKind.wrap IntKind.i64 ((↑(List.length (Prod.fst t0)) : Int) - 1)) +
                  Int.tmod (IntKind.wrap IntKind.i64 (List.getD t1 2 0))
                   (IntKind.wrap IntKind.i64
                     (IntKind.wrap IntKind.i64
                        (IntKind.wrap IntKind.i64 (Int.tmod (IntKind.wrap IntKind.i64 (List.getD t1 0 0)) (IntKind.wrap IntKind.i64 ((↑(List.length (Prod.fst t0)) : Int) - 1)) + 1) +
                          Int.tmod (IntKind.wrap IntKind.i64 (List.getD t1 1 0)) (IntKind.wrap IntKind.i64 (IntKind.wrap IntKind.i64 ((↑(List.length (Prod.fst t0)) : Int) - 1) - Int.tmod (IntKind.wrap IntKind.i64 (List.getD t1 0 0)) (IntKind.wrap IntKind.i64 ((↑(List.length (Prod.fst t0)) : Int) - 1))))) -
                       Int.tmod (IntKind.wrap IntKind.i64 (List.getD t1 0 0)) (IntKind.wrap IntKind.i64 ((↑(List.length (Prod.fst t0)) : Int) - 1))))) +
               1),
            IntKind.wrap IntKind.i64
             (IntKind.wrap IntKind.i64 (Int.tmod (IntKind.wrap IntKind.i64 (List.getD t1 0 0)) (IntKind.wrap IntKind.i64 ((↑(List.length (Prod.fst t0)) : Int) - 1)) + 1) +
               Int.tmod (IntKind.wrap IntKind.i64 (List.getD t1 1 0)) (IntKind.wrap IntKind.i64 (IntKind.wrap IntKind.i64 ((↑(List.length (Prod.fst t0)) : Int) - 1) - Int.tmod (IntKind.wrap IntKind.i64 (List.getD t1 0 0)) (IntKind.wrap IntKind.i64 ((↑(List.length (Prod.fst t0)) : Int) - 1))))),
            ()))
        fun (y_1 : Sp × Sp × Int × Unit) =>
        Option.bind
         (F21
           (t0, Int.tmod (IntKind.wrap IntKind.i64 (List.getD t1 0 0)) (IntKind.wrap IntKind.i64 ((↑(List.length (Prod.fst t0)) : Int) - 1)),
             IntKind.wrap IntKind.i64
              (IntKind.wrap IntKind.i64 (Int.tmod (IntKind.wrap IntKind.i64 (List.getD t1 0 0)) (IntKind.wrap IntKind.i64 ((↑(List.length (Prod.fst t0)) : Int) - 1)) + 1) +
                Int.tmod (IntKind.wrap IntKind.i64 (List.getD t1 1 0)) (IntKind.wrap IntKind.i64 (IntKind.wrap IntKind.i64 ((↑(List.length (Prod.fst t0)) : Int) - 1) - Int.tmod (IntKind.wrap IntKind.i64 (List.getD t1 0 0)) (IntKind.wrap IntKind.i64 ((↑(List.length (Prod.fst t0)) : Int) - 1))))),
             ()))
         fun (y_2 : Sp × Sp × Int × Unit) =>
         Option.bind
          (F21
            (t0,
              IntKind.wrap IntKind.i64
               (Int.tmod (IntKind.wrap IntKind.i64 (List.getD t1 0 0)) (IntKind.wrap IntKind.i64 ((↑(List.length (Prod.fst t0)) : Int) - 1)) +
                 Int.tmod (IntKind.wrap IntKind.i64 (List.getD t1 2 0))
                  (IntKind.wrap IntKind.i64
                    (IntKind.wrap IntKind.i64
                       (IntKind.wrap IntKind.i64 (Int.tmod (IntKind.wrap IntKind.i64 (List.getD t1 0 0)) (IntKind.wrap IntKind.i64 ((↑(List.length (Prod.fst t0)) : Int) - 1)) + 1) +
                         Int.tmod (IntKind.wrap IntKind.i64 (List.getD t1 1 0)) (IntKind.wrap IntKind.i64 (IntKind.wrap IntKind.i64 ((↑(List.length (Prod.fst t0)) : Int) - 1) - Int.tmod (IntKind.wrap IntKind.i64 (List.getD t1 0 0)) (IntKind.wrap IntKind.i64 ((↑(List.length (Prod.fst t0)) : Int) - 1))))) -
                      Int.tmod (IntKind.wrap IntKind.i64 (List.getD t1 0 0)) (IntKind.wrap IntKind.i64 ((↑(List.length (Prod.fst t0)) : Int) - 1))))),
              IntKind.wrap IntKind.i64
               (Int.tmod (IntKind.wrap IntKind.i64 (List.getD t1 0 0)) (IntKind.wrap IntKind.i64 ((↑(List.length (Prod.fst t0)) : Int) - 1)) +
                 Int.tmod (IntKind.wrap IntKind.i64 (List.getD t1 2 0))
                  (IntKind.wrap IntKind.i64
                    (IntKind.wrap IntKind.i64
                       (IntKind.wrap IntKind.i64 (Int.tmod (IntKind.wrap IntKind.i64 (List.getD t1 0 0)) (IntKind.wrap IntKind.i64 ((↑(List.length (Prod.fst t0)) : Int) - 1)) + 1) +
                         Int.tmod (IntKind.wrap IntKind.i64 (List.getD t1 1 0)) (IntKind.wrap IntKind.i64 (IntKind.wrap IntKind.i64 ((↑(List.length (Prod.fst t0)) : Int) - 1) - Int.tmod (IntKind.wrap IntKind.i64 (List.getD t1 0 0)) (IntKind.wrap IntKind.i64 ((↑(List.length (Prod.fst t0)) : Int) - 1))))) -
                      Int.tmod (IntKind.wrap IntKind.i64 (List.getD t1 0 0)) (IntKind.wrap IntKind.i64 ((↑(List.length (Prod.fst t0)) : Int) - 1))))),
              ()))
          fun (y_3 : Sp × Sp × Int × Unit) =>
          Option.bind
           (F19
             (t0,
               IntKind.wrap IntKind.i64
                (Int.tmod (IntKind.wrap IntKind.i64 (List.getD t1 0 0)) (IntKind.wrap IntKind.i64 ((↑(List.length (Prod.fst t0)) : Int) - 1)) +
                  Int.tmod (IntKind.wrap IntKind.i64 (List.getD t1 2 0))
                   (IntKind.wrap IntKind.i64
                     (IntKind.wrap IntKind.i64
                        (IntKind.wrap IntKind.i64 (Int.tmod (IntKind.wrap IntKind.i64 (List.getD t1 0 0)) (IntKind.wrap IntKind.i64 ((↑(List.length (Prod.fst t0)) : Int) - 1)) + 1) +
                          Int.tmod (IntKind.wrap IntKind.i64 (List.getD t1 1 0)) (IntKind.wrap IntKind.i64 (IntKind.wrap IntKind.i64 ((↑(List.length (Prod.fst t0)) : Int) - 1) - Int.tmod (IntKind.wrap IntKind.i64 (List.getD t1 0 0)) (IntKind.wrap IntKind.i64 ((↑(List.length (Prod.fst t0)) : Int) - 1))))) -
                       Int.tmod (IntKind.wrap IntKind.i64 (List.getD t1 0 0)) (IntKind.wrap IntKind.i64 ((↑(List.length (Prod.fst t0)) : Int) - 1))))),
               ()))
           fun (y_4 : Sp × Int × Unit) =>
           bif Prod.fst (Prod.snd (Prod.snd y)) != 0 then some (false, ())
           else
            bif Prod.fst (Prod.snd (Prod.snd y_1)) != 0 then some (false, ())
            else
             bif Prod.fst (Prod.snd (Prod.snd y_2)) != 0 then some (false, ())
             else
              bif Prod.fst (Prod.snd (Prod.snd y_3)) != 0 then some (false, ())
              else
               bif Prod.fst (Prod.snd y_4) != 0 then some (false, ())
               else
                Option.bind (F45 (Prod.fst y, ())) fun (y_5 : Bool × Unit) =>
                 bif !Prod.fst y_5 then some (false, ())
                 else
                  Option.bind (F45 (Prod.fst (Prod.snd y), ())) fun (y_6 : Bool × Unit) =>
                   bif !Prod.fst y_6 then some (false, ())
                   else
                    Option.bind (F45 (Prod.fst y_1, ())) fun (y_7 : Bool × Unit) =>
                     bif !Prod.fst y_7 then some (false, ())
                     else
                      Option.bind (F45 (Prod.fst (Prod.snd y_1), ())) fun (y_8 : Bool × Unit) =>
                       bif !Prod.fst y_8 then some (false, ())
                       else
                        Option.bind (F45 (Prod.fst y_2, ())) fun (y_9 : Bool × Unit) =>
                         bif !Prod.fst y_9 then some (false, ())
                         else
                          Option.bind (F45 (Prod.fst (Prod.snd y_2), ())) fun (y_10 : Bool × Unit) =>
                           bif !Prod.fst y_10 then some (false, ())
                           else
                            Option.bind (F48 (Prod.fst y_2, Prod.fst y, ())) fun (y_11 : Bool × Unit) =>
                             bif !Prod.fst y_11 then
                              Option.bind (F48 (Prod.fst (Prod.snd y), Prod.fst (Prod.snd y_2), ())) fun (y : Bool × Unit) =>
                               bif !Prod.fst y then
                                Option.bind (F48 (Prod.fst (Prod.snd y_2), Prod.fst y_2, ())) fun (y : Bool × Unit) =>
                                 bif !Prod.fst y then
                                  Option.bind (F37 (Prod.fst (Prod.fst y_4), 1, ())) fun (y : Sp × Unit) =>
                                   bif eqD (Ty.struct [Ty.int IntKind.i64, Ty.int IntKind.i64]) (Prod.fst y_3) (Prod.fst y) then
                                    Option.bind (F37 (Prod.fst (Prod.snd (Prod.fst y_4)), 1, ())) fun (y : Sp × Unit) => bif eqD (Ty.struct [Ty.int IntKind.i64, Ty.int IntKind.i64]) (Prod.fst (Prod.snd y_3)) (Prod.fst y) then Option.bind (F23 ()) fun (y : Bool × Unit) => some (Prod.fst y, ()) else some (false, ())
                                   else some (false, ())
                                 else some (false, ())
                               else
                                Option.bind (F48 (Prod.fst (Prod.snd y_1), Prod.fst (Prod.snd y_2), ())) fun (y : Bool × Unit) =>
                                 bif !Prod.fst y then
                                  Option.bind (F48 (Prod.fst (Prod.snd y_2), Prod.fst y_2, ())) fun (y : Bool × Unit) =>
                                   bif !Prod.fst y then
                                    Option.bind (F37 (Prod.fst (Prod.fst y_4), 1, ())) fun (y : Sp × Unit) =>
                                     bif eqD (Ty.struct [Ty.int IntKind.i64, Ty.int IntKind.i64]) (Prod.fst y_3) (Prod.fst y) then
                                      Option.bind (F37 (Prod.fst (Prod.snd (Prod.fst y_4)), 1, ())) fun (y : Sp × Unit) => bif eqD (Ty.struct [Ty.int IntKind.i64, Ty.int IntKind.i64]) (Prod.fst (Prod.snd y_3)) (Prod.fst y) then Option.bind (F23 ()) fun (y : Bool × Unit) => some (Prod.fst y, ()) else some (false, ())
                                     else some (false, ())
                                   else some (false, ())
                                 else some (false, ())
                             else
                              Option.bind (F48 (Prod.fst y_2, Prod.fst y_1, ())) fun (y_12 : Bool × Unit) =>
                               bif !Prod.fst y_12 then
                                Option.bind (F48 (Prod.fst (Prod.snd y), Prod.fst (Prod.snd y_2), ())) fun (y : Bool × Unit) =>
                                 bif !Prod.fst y then
                                  Option.bind (F48 (Prod.fst (Prod.snd y_2), Prod.fst y_2, ())) fun (y : Bool × Unit) =>
                                   bif !Prod.fst y then
                                    Option.bind (F37 (Prod.fst (Prod.fst y_4), 1, ())) fun (y : Sp × Unit) =>
                                     bif eqD (Ty.struct [Ty.int IntKind.i64, Ty.int IntKind.i64]) (Prod.fst y_3) (Prod.fst y) then
                                      Option.bind (F37 (Prod.fst (Prod.snd (Prod.fst y_4)), 1, ())) fun (y : Sp × Unit) => bif eqD (Ty.struct [Ty.int IntKind.i64, Ty.int IntKind.i64]) (Prod.fst (Prod.snd y_3)) (Prod.fst y) then Option.bind (F23 ()) fun (y : Bool × Unit) => some (Prod.fst y, ()) else some (false, ())
                                     else some (false, ())
                                   else some (false, ())
                                 else
                                  Option.bind (F48 (Prod.fst (Prod.snd y_1), Prod.fst (Prod.snd y_2), ())) fun (y : Bool × Unit) =>
                                   bif !Prod.fst y then
                                    Option.bind (F48 (Prod.fst (Prod.snd y_2), Prod.fst y_2, ())) fun (y : Bool × Unit) =>
                                     bif !Prod.fst y then
                                      Option.bind (F37 (Prod.fst (Prod.fst y_4), 1, ())) fun (y : Sp × Unit) =>
                                       bif eqD (Ty.struct [Ty.int IntKind.i64, Ty.int IntKind.i64]) (Prod.fst y_3) (Prod.fst y) then
                                        Option.bind (F37 (Prod.fst (Prod.snd (Prod.fst y_4)), 1, ())) fun (y : Sp × Unit) => bif eqD (Ty.struct [Ty.int IntKind.i64, Ty.int IntKind.i64]) (Prod.fst (Prod.snd y_3)) (Prod.fst y) then Option.bind (F23 ()) fun (y : Bool × Unit) => some (Prod.fst y, ()) else some (false, ())
                                       else some (false, ())
                                     else some (false, ())
                                   else some (false, ())
                               else some (false, ()) : Option (denL [.bool])) = some y) : F15 (t0, (t1, ())) = some y := ghost_eq (Ev.eq (fun _ => E15 _ _ _) h)
end Go.Proofs.YtkbephbhajplhaaDoor
/- CycleMeans: the mean of one year is its number, and that of two stretches lies between theirs. Conditions: none. -/
namespace Go.Proofs.YtkbephbhajplhaaDoor
open Go Go.Gh Go.Proofs
theorem sum_split (t : List Int) {a c b : Nat} (h1 : a ≤ c) (h2 : c < b) : sumL t a b = sumL t a c + sumL t (c + 1) b := by
 unfold sumL
 rw [← sumI_append]
 congr 1
 have e : t.take (b + 1) = t.take (c + 1) ++ (t.take (b + 1)).drop (c + 1) := by
  have := (List.take_append_drop (c + 1) (t.take (b + 1))).symm
  rwa [List.take_take, Nat.min_eq_left (by omega)] at this
 conv => lhs; rw [e]
 by_cases hl : c + 1 ≤ t.length
 ·rw [List.drop_append_of_le_length (by rw [List.length_take]; omega)]
 ·rw [List.drop_eq_nil_of_le (show (List.take (b + 1) t).length ≤ c + 1 by rw [List.length_take]; omega), List.append_nil, List.append_nil]
theorem low_one (a : Int) (ha : 0 ≤ a) : lowP a 1 = (a, 1, ()) := by
 obtain ⟨n, rfl⟩ := Int.eq_ofNat_of_zero_le ha
 unfold lowP
 rw [show (1 : Int).toNat = 1 from rfl, Nat.gcd_one_right]
 simp
theorem mean_least {a p r n m k : Int} (h : p + r ≤ a) (hn : n = m + k) (hz : 0 ≤ n) : ¬ (a * m < p * n) ∨ ¬ (a * k < r * n) := by
 refine Classical.byContradiction fun hc => ?_
 rw [not_or, Classical.not_not, Classical.not_not] at hc
 obtain ⟨h1, h2⟩ := hc
 have h3 : a * n < (p + r) * n := by
  rw [Int.add_mul, hn, Int.mul_add]
  rw [hn] at h1 h2
  omega
 exact absurd h (Int.not_le.2 (Int.lt_of_mul_lt_mul_right h3 hz))
theorem u8_at {n : Nat} {x : List Int} (h : ∀ i, 0 ≤ x.getD i 0 ∧ x.getD i 0 ≤ 255) (i : Nat) : ∃ u : Nat, x.getD i 0 = (u : Int) ∧ u ≤ 255 ∧ n = n := by
 obtain ⟨u, hu⟩ := Int.eq_ofNat_of_zero_le (h i).1
 exact ⟨u, hu, by have := (h i).2; omega, rfl⟩
theorem L15 (s : Se) (x : List Int) (hx : ∀ i, 0 ≤ x.getD i 0 ∧ x.getD i 0 ≤ 255) : F15 ((s, x, ()) : Se × List Int × Unit) = some (true, ()) := by
 refine N15 _ _ ?_
 rw [L51]
 simp only [Option.bind_some]
 cases ha : alvB s with
 | false =>
  have he := alvB_not ha 0 [0, 0]
  have hm : mErr s 0 0 ≠ 0 := he
  have e1 : (meanP s 0 0).2.2.1 = mErr s 0 0 := by unfold meanP; rw [if_neg hm]
  rw [L21, L23]
  simp only [Bool.not_false, cond_true, Option.bind_some]
  rw [e1, show (mErr s 0 0 != 0) = true from bne_iff_ne.2 hm]
  exact Ev.all fun _ => by first | rfl | trivial
 | true =>
  have h := alvB_iff.1 ha
  have h7 := h.ok.hi
  have h3 := h.ok.lo
  obtain ⟨u, hu, hu2, _⟩ := u8_at (n := 0) hx 0
  obtain ⟨v, hv, hv2, _⟩ := u8_at (n := 0) hx 1
  obtain ⟨w, hw, hw2, _⟩ := u8_at (n := 0) hx 2
  obtain ⟨m, hm⟩ : ∃ m : Nat, s.1.length = m + 1 := ⟨s.1.length - 1, by omega⟩
  have tm : ∀ p q : Nat, Int.tmod (p : Int) (q : Int) = ((p % q : Nat) : Int) := fun p q => by rw [Int.tmod_eq_emod_of_nonneg (by omega)]; simp
  have e0 : IntKind.wrap IntKind.i64 ((s.1.length : Int) - 1) = (m : Int) := by rw [wrap_id (by omega) (by omega)]; omega
  have ea : Int.tmod (u : Int) (m : Int) = ((u % m : Nat) : Int) := tm u m
  have la : u % m < m := Nat.mod_lt _ (by omega)
  rw [hu, hv, hw, e0, wrap_id (x := (u : Int)) (by omega) (by omega), wrap_id (x := (v : Int)) (by omega) (by omega), wrap_id (x := (w : Int)) (by omega) (by omega), ea]
  generalize u % m = a at *
  have e1 : IntKind.wrap IntKind.i64 ((m : Int) - (a : Int)) = ((m - a : Nat) : Int) := by rw [wrap_id (by omega) (by omega)]; omega
  have eb : Int.tmod (v : Int) ((m - a : Nat) : Int) = ((v % (m - a) : Nat) : Int) := tm _ _
  have lb : v % (m - a) < m - a := Nat.mod_lt _ (by omega)
  rw [e1, eb]
  generalize v % (m - a) = d at *
  have e2 : IntKind.wrap IntKind.i64 (IntKind.wrap IntKind.i64 ((a : Int) + 1) + (d : Int)) = ((a + 1 + d : Nat) : Int) := by
   rw [wrap_id (x := (a : Int) + 1) (by omega) (by omega), wrap_id (by omega) (by omega)]; omega
  rw [e2]
  obtain ⟨b, hb⟩ : ∃ b, b = a + 1 + d := ⟨_, rfl⟩
  rw [← hb]
  have e3 : IntKind.wrap IntKind.i64 ((b : Int) - (a : Int)) = ((b - a : Nat) : Int) := by rw [wrap_id (by omega) (by omega)]; omega
  have ec : Int.tmod (w : Int) ((b - a : Nat) : Int) = ((w % (b - a) : Nat) : Int) := tm _ _
  have lc : w % (b - a) < b - a := Nat.mod_lt _ (by omega)
  rw [e3, ec]
  generalize w % (b - a) = g at *
  have e4 : IntKind.wrap IntKind.i64 ((a : Int) + (g : Int)) = ((a + g : Nat) : Int) := by rw [wrap_id (by omega) (by omega)]; omega
  rw [e4]
  obtain ⟨c, hc⟩ : ∃ c, c = a + g := ⟨_, rfl⟩
  rw [← hc, wrap_succ (n := c) (by omega)]
  rw [L21, L21, L21, L21, L21, L19, h.mean (a := a) (b := c) (by omega) (by omega), h.mean (a := c + 1) (b := b) (by omega) (by omega), h.mean (a := a) (b := b) (by omega) (by omega), h.mean (a := c) (b := c) (by omega) (by omega), h.number (n := c) (by omega)]
  rw [dec_f (show ¬ (m : Int) = 0 by omega), dec_f (show ¬ ((m - a : Nat) : Int) = 0 by omega), dec_f (show ¬ ((b - a : Nat) : Int) = 0 by omega)]
  simp only [Option.bind_some, Bool.not_true, cond_false, bne_self_eq_false]
  obtain ⟨⟨t1, m1, q1⟩, ⟨t2, m2, q2⟩, all, r1, r2, r3⟩ := h.nums a (q := b) (by omega)
  obtain ⟨_, _, all1, s1, s2, s3⟩ := h.nums a (q := c) (by omega)
  obtain ⟨_, _, all2, k1, k2, k3⟩ := h.nums (c + 1) (q := b) (by omega)
  obtain ⟨_, _, _, j1, j2, j3⟩ := h.nums c (q := c) (by omega)
  have x1 := all1 t1 m1
  have x2 := all2 t1 m1
  have y1 := all1 t2 m2
  have y2 := all2 t2 m2
  rw [sum_split t1 (show a ≤ c by omega) (show c < b by omega)] at q1
  rw [sum_split t2 (show a ≤ c by omega) (show c < b by omega)] at q2
  have g1 : (numsP s a c).1 + (numsP s (c + 1) b).1 ≤ (numsP s a b).1 := by omega
  have g2 : (numsP s a b).2.1 ≤ (numsP s a c).2.1 + (numsP s (c + 1) b).2.1 := by omega
  rw [show c - c + 1 = 1 by omega, show b - (c + 1) + 1 = b - c by omega]
  generalize numsP s a b = A at *
  generalize numsP s a c = P at *
  generalize numsP s (c + 1) b = R at *
  generalize numsP s c c = N at *
  have d1 : (1 : Int) ≤ ((c - a + 1 : Nat) : Int) ∧ ((c - a + 1 : Nat) : Int) ≤ 7 := by omega
  have d2 : (1 : Int) ≤ ((b - c : Nat) : Int) ∧ ((b - c : Nat) : Int) ≤ 7 := by omega
  have d3 : (1 : Int) ≤ ((b - a + 1 : Nat) : Int) ∧ ((b - a + 1 : Nat) : Int) ≤ 7 := by omega
  have o1 := low_ok (a := P.1) ⟨s1, by omega⟩ d1
  have o2 := low_ok (a := P.2.1) ⟨by omega, s3⟩ d1
  have o3 := low_ok (a := R.1) ⟨k1, by omega⟩ d2
  have o4 := low_ok (a := R.2.1) ⟨by omega, k3⟩ d2
  have o5 := low_ok (a := A.1) ⟨r1, by omega⟩ d3
  have o6 := low_ok (a := A.2.1) ⟨by omega, r3⟩ d3
  rw [L45 o1.1 o1.2.1, L45 o2.1 o2.2.1, L45 o3.1 o3.2.1, L45 o4.1 o4.2.1, L45 o5.1 o5.2.1, L45 o6.1 o6.2.1]
  simp only [Option.bind_some, Bool.not_true, cond_false]
  rw [L48 o5.1 o5.2.1 o1.1 o1.2.1, L48 o5.1 o5.2.1 o3.1 o3.2.1, L48 o2.1 o2.2.1 o6.1 o6.2.1, L48 o4.1 o4.2.1 o6.1 o6.2.1, L48 o6.1 o6.2.1 o5.1 o5.2.1]
  simp only [low_lt ⟨r1, (by omega : A.1 ≤ 693)⟩ d3 ⟨s1, (by omega : P.1 ≤ 693)⟩ d1, low_lt ⟨r1, (by omega : A.1 ≤ 693)⟩ d3 ⟨k1, (by omega : R.1 ≤ 693)⟩ d2, low_lt ⟨(by omega : 0 ≤ P.2.1), s3⟩ d1 ⟨(by omega : 0 ≤ A.2.1), r3⟩ d3, low_lt ⟨(by omega : 0 ≤ R.2.1), k3⟩ d2 ⟨(by omega : 0 ≤ A.2.1), r3⟩ d3, low_lt ⟨(by omega : 0 ≤ A.2.1), r3⟩ d3 ⟨r1, (by omega : A.1 ≤ 693)⟩ d3]
  have f1 : ¬ (A.2.1 * ((b - a + 1 : Nat) : Int) < A.1 * ((b - a + 1 : Nat) : Int)) := Int.not_lt.2 (Int.mul_le_mul_of_nonneg_right r2 (by omega))
  have f2 := mean_least g1 (show ((b - a + 1 : Nat) : Int) = ((c - a + 1 : Nat) : Int) + ((b - c : Nat) : Int) by omega) (by omega)
  have f3 : ¬ (P.2.1 * ((b - a + 1 : Nat) : Int) < A.2.1 * ((c - a + 1 : Nat) : Int)) ∨ ¬ (R.2.1 * ((b - a + 1 : Nat) : Int) < A.2.1 * ((b - c : Nat) : Int)) := by
   have := mean_least (a := -A.2.1) (p := -P.2.1) (r := -R.2.1) (by omega) (show ((b - a + 1 : Nat) : Int) = ((c - a + 1 : Nat) : Int) + ((b - c : Nat) : Int) by omega) (by omega)
   simp only [Int.neg_mul] at this
   omega
  rw [show ((1 : Nat) : Int) = 1 from rfl, low_one _ j1, low_one _ (by omega : 0 ≤ N.2.1), L37, L37, L23]
  simp only [Option.bind_some, dec_f f1, eqSp]
  refine Ev.all fun _ => ?_
  by_cases z1 : A.1 * ((c - a + 1 : Nat) : Int) < P.1 * ((b - a + 1 : Nat) : Int) <;> by_cases z2 : A.1 * ((b - c : Nat) : Int) < R.1 * ((b - a + 1 : Nat) : Int) <;> by_cases z3 : P.2.1 * ((b - a + 1 : Nat) : Int) < A.2.1 * ((c - a + 1 : Nat) : Int) <;> by_cases z4 : R.2.1 * ((b - a + 1 : Nat) : Int) < A.2.1 * ((b - c : Nat) : Int) <;> first
   | exact absurd f2 (fun h => h.elim (· z1) (· z2))
   | exact absurd f3 (fun h => h.elim (· z3) (· z4))
   | (simp only [z1, z2, z3, z4]; rfl)
end Go.Proofs.YtkbephbhajplhaaDoor
