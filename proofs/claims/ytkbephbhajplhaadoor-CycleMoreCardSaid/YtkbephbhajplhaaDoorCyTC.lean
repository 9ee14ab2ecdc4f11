/- The states at the cuts of the reference (a). Conditions: none (abbreviations). -/
import Derived.Test.YtkbephbhajplhaaDoorCyR
import Derived.Test.YtkbephbhajplhaaDoorGhI
namespace Go.Proofs.YtkbephbhajplhaaDoor
open Go Go.Gh Go.Proofs
noncomputable abbrev T18_0 (t5 : Int) (h0 : Se) (f : Nat) : Option (denL [(.int .i64), (.int .i64), (.int .i64)]) := iter cx87 S18 [(.int .i64), (.int .i64), (.int .i64)] 6000 f 0 K18_0 ((((), (t5, ())), ()), (h0, ()))
theorem U18_0 (t5 : Int) (h0 : Se) {y : denL [(.int .i64), (.int .i64), (.int .i64)]} (h : Ev fun k => seg cx87 S18 [(.int .i64), (.int .i64), (.int .i64)] 6000 some (iter cx87 S18 [(.int .i64), (.int .i64), (.int .i64)] 6000 k) 0 K18_0 ((((), (t5, ())), ()), (h0, ())) = some y) : Ev fun k => T18_0 t5 h0 k = some y := iter_ev h
noncomputable abbrev T18_1 (t7 : Int) (h0 : Se) (f : Nat) : Option (denL [(.int .i64), (.int .i64), (.int .i64)]) := iter cx87 S18 [(.int .i64), (.int .i64), (.int .i64)] 6000 f 1 K18_1 ((((), (t7, ())), ()), (h0, ()))
theorem U18_1 (t7 : Int) (h0 : Se) {y : denL [(.int .i64), (.int .i64), (.int .i64)]} (h : Ev fun k => seg cx87 S18 [(.int .i64), (.int .i64), (.int .i64)] 6000 some (iter cx87 S18 [(.int .i64), (.int .i64), (.int .i64)] 6000 k) 1 K18_1 ((((), (t7, ())), ()), (h0, ())) = some y) : Ev fun k => T18_1 t7 h0 k = some y := iter_ev h
noncomputable abbrev T112_0 (t3 : (List (List Int))) (t4 : Int) (h0 : Se) (f : Nat) : Option (denL [(.slice (.slice (.int .i64)))]) := iter cx18 S112 [(.slice (.slice (.int .i64)))] 6000 f 0 K112_0 ((((), (t3, (t4, ()))), ()), (h0, ()))
theorem U112_0 (t3 : (List (List Int))) (t4 : Int) (h0 : Se) {y : denL [(.slice (.slice (.int .i64)))]} (h : Ev fun k => seg cx18 S112 [(.slice (.slice (.int .i64)))] 6000 some (iter cx18 S112 [(.slice (.slice (.int .i64)))] 6000 k) 0 K112_0 ((((), (t3, (t4, ()))), ()), (h0, ())) = some y) : Ev fun k => T112_0 t3 t4 h0 k = some y := iter_ev h
noncomputable abbrev T112_1 (t3 : (List (List Int))) (t4 : Int) (t6 : Int) (h0 : Se) (h1 : (List (List Int))) (f : Nat) : Option (denL [(.slice (.slice (.int .i64)))]) := iter cx18 S112 [(.slice (.slice (.int .i64)))] 6000 f 1 K112_1 ((((), (t3, (t4, ((), (t6, ()))))), ()), (h0, (h1, ())))
theorem U112_1 (t3 : (List (List Int))) (t4 : Int) (t6 : Int) (h0 : Se) (h1 : (List (List Int))) {y : denL [(.slice (.slice (.int .i64)))]} (h : Ev fun k => seg cx18 S112 [(.slice (.slice (.int .i64)))] 6000 some (iter cx18 S112 [(.slice (.slice (.int .i64)))] 6000 k) 1 K112_1 ((((), (t3, (t4, ((), (t6, ()))))), ()), (h0, (h1, ()))) = some y) : Ev fun k => T112_1 t3 t4 t6 h0 h1 k = some y := iter_ev h
noncomputable abbrev T112_2 (t3 : (List (List Int))) (t4 : Int) (t6 : Int) (t7 : Int) (h0 : Se) (h1 : (List (List Int))) (f : Nat) : Option (denL [(.slice (.slice (.int .i64)))]) := iter cx18 S112 [(.slice (.slice (.int .i64)))] 6000 f 2 K112_2 ((((), (t3, (t4, ((), (t6, (t7, ())))))), ()), (h0, (h1, ())))
theorem U112_2 (t3 : (List (List Int))) (t4 : Int) (t6 : Int) (t7 : Int) (h0 : Se) (h1 : (List (List Int))) {y : denL [(.slice (.slice (.int .i64)))]} (h : Ev fun k => seg cx18 S112 [(.slice (.slice (.int .i64)))] 6000 some (iter cx18 S112 [(.slice (.slice (.int .i64)))] 6000 k) 2 K112_2 ((((), (t3, (t4, ((), (t6, (t7, ())))))), ()), (h0, (h1, ()))) = some y) : Ev fun k => T112_2 t3 t4 t6 t7 h0 h1 k = some y := iter_ev h
noncomputable abbrev T47_0 (t0 : (List Int)) (t2 : Int) (t7 : Int) (t8 : Int) (f : Nat) : Option (denL [(.int .i64)]) := iter cx112 S47 [(.int .i64)] 6000 f 0 K47_0 (((t0, (t2, (t7, (t8, ())))), ()), ())
theorem U47_0 (t0 : (List Int)) (t2 : Int) (t7 : Int) (t8 : Int) {y : denL [(.int .i64)]} (h : Ev fun k => seg cx112 S47 [(.int .i64)] 6000 some (iter cx112 S47 [(.int .i64)] 6000 k) 0 K47_0 (((t0, (t2, (t7, (t8, ())))), ()), ()) = some y) : Ev fun k => T47_0 t0 t2 t7 t8 k = some y := iter_ev h
noncomputable abbrev T40_0 (t0 : (List Int)) (t4 : Int) (h0 : (List Int)) (f : Nat) : Option (denL [(.slice (.int .i64))]) := iter cx47 S40 [(.slice (.int .i64))] 6000 f 0 K40_0 (((t0, ((), (t4, ()))), ()), (h0, ()))
theorem U40_0 (t0 : (List Int)) (t4 : Int) (h0 : (List Int)) {y : denL [(.slice (.int .i64))]} (h : Ev fun k => seg cx47 S40 [(.slice (.int .i64))] 6000 some (iter cx47 S40 [(.slice (.int .i64))] 6000 k) 0 K40_0 (((t0, ((), (t4, ()))), ()), (h0, ())) = some y) : Ev fun k => T40_0 t0 t4 h0 k = some y := iter_ev h
noncomputable abbrev T110_0 (t5 : (List Int)) (t6 : Bool) (t7 : Int) (h0 : Sp) (f : Nat) : Option (denL [.bool]) := iter cx42 S110 [.bool] 6000 f 0 K110_0 ((((), (t5, (t6, (t7, ())))), ()), (h0, ()))
theorem U110_0 (t5 : (List Int)) (t6 : Bool) (t7 : Int) (h0 : Sp) {y : denL [.bool]} (h : Ev fun k => seg cx42 S110 [.bool] 6000 some (iter cx42 S110 [.bool] 6000 k) 0 K110_0 ((((), (t5, (t6, (t7, ())))), ()), (h0, ())) = some y) : Ev fun k => T110_0 t5 t6 t7 h0 k = some y := iter_ev h
noncomputable abbrev T52_0 (t3 : (List (List Int))) (t5 : Int) (h0 : Se) (h1 : (List (List Int))) (f : Nat) : Option (denL [(.slice (.slice (.int .i64)))]) := iter cx110 S52 [(.slice (.slice (.int .i64)))] 6000 f 0 K52_0 ((((), (t3, ((), (t5, ())))), ()), (h0, (h1, ())))
theorem U52_0 (t3 : (List (List Int))) (t5 : Int) (h0 : Se) (h1 : (List (List Int))) {y : denL [(.slice (.slice (.int .i64)))]} (h : Ev fun k => seg cx110 S52 [(.slice (.slice (.int .i64)))] 6000 some (iter cx110 S52 [(.slice (.slice (.int .i64)))] 6000 k) 0 K52_0 ((((), (t3, ((), (t5, ())))), ()), (h0, (h1, ()))) = some y) : Ev fun k => T52_0 t3 t5 h0 h1 k = some y := iter_ev h
noncomputable abbrev T52_1 (t3 : (List (List Int))) (t5 : Int) (t6 : Bool) (t7 : Int) (h0 : Se) (h1 : (List (List Int))) (f : Nat) : Option (denL [(.slice (.slice (.int .i64)))]) := iter cx110 S52 [(.slice (.slice (.int .i64)))] 6000 f 1 K52_1 ((((), (t3, ((), (t5, (t6, (t7, ())))))), ()), (h0, (h1, ())))
theorem U52_1 (t3 : (List (List Int))) (t5 : Int) (t6 : Bool) (t7 : Int) (h0 : Se) (h1 : (List (List Int))) {y : denL [(.slice (.slice (.int .i64)))]} (h : Ev fun k => seg cx110 S52 [(.slice (.slice (.int .i64)))] 6000 some (iter cx110 S52 [(.slice (.slice (.int .i64)))] 6000 k) 1 K52_1 ((((), (t3, ((), (t5, (t6, (t7, ())))))), ()), (h0, (h1, ()))) = some y) : Ev fun k => T52_1 t3 t5 t6 t7 h0 h1 k = some y := iter_ev h
end Go.Proofs.YtkbephbhajplhaaDoor
/- The equations at the cuts of the reference, with the states' names (a). Conditions: none. (Printed by rest.py.) -/
namespace Go.Proofs.YtkbephbhajplhaaDoor
open Go Go.Gh Go.Proofs
theorem N85 (t0 : Int) (t1 : Int) (t2 : Int) {y : denL [.bool]} (h : Ev fun _ =>
 (bif decide (t1 ≤ t0) then some (decide (t0 ≤ t2), ()) else some (false, ()) : Option (denL [.bool])) = some y) : F85 (t0, (t1, (t2, ()))) = some y := ghost_eq (Ev.eq (fun _ => E85 _ _ _ _) h)
theorem N86 (t0 : Sp) (t1 : Int) (t2 : Int) {y : denL [(.int .i64)]} (h : Ev fun _ =>
 (Option.bind (F85 (Prod.fst t0, t1, t2, ())) fun (y : Bool × Unit) => bif !Prod.fst y then some (7, ()) else Option.bind (F85 (Prod.fst (Prod.snd t0), t1, t2, ())) fun (y : Bool × Unit) => bif !Prod.fst y then some (7, ()) else bif decide (Prod.fst t0 > Prod.fst (Prod.snd t0)) then some (2, ()) else some (0, ()) : Option (denL [(.int .i64)])) = some y) : F86 (t0, (t1, (t2, ()))) = some y := ghost_eq (Ev.eq (fun _ => E86 _ _ _ _) h)
theorem N87 (t0 : Se) (t1 : Int) {y : denL [.bool]} (h : Ev fun _ =>
 (Option.bind (F85 (t1, 0, IntKind.wrap IntKind.i64 ((↑(List.length (Prod.fst t0)) : Int) - 1), ())) fun (y : Bool × Unit) => some (Prod.fst y, ()) : Option (denL [.bool])) = some y) : F87 (t0, (t1, ())) = some y := ghost_eq (Ev.eq (fun _ => E87 _ _ _) h)
theorem R18_0 (t5 : Int) (h0 : Se) {y : denL [(.int .i64), (.int .i64), (.int .i64)]} (h : Ev fun k =>
 (bif decide (t5 < (↑(List.length (Prod.fst h0)) : Int)) then
 bif decide (0 ≤ t5) && decide (t5 < (↑(List.length (Prod.fst h0)) : Int)) then
   Option.bind (F86 (List.getD (Prod.fst h0) (Int.toNat t5) (0, 0, ()), 0, 99, ())) fun (y : Int × Unit) =>
    bif Prod.fst y == 0 then
     bif decide (0 ≤ t5) && decide (t5 < (↑(List.length (Prod.fst h0)) : Int)) then
      bif decide (0 ≤ t5) && decide (t5 < (↑(List.length (Prod.fst h0)) : Int)) then
       bif decide (IntKind.wrap IntKind.i64 (Prod.fst (Prod.snd (List.getD (Prod.fst h0) (Int.toNat t5) (0, 0, ()))) - Prod.fst (List.getD (Prod.fst h0) (Int.toNat t5) (0, 0, ()))) > 3) then some (1, t5, 2, ()) else bif Prod.fst y != 0 then some (1, t5, Prod.fst y, ()) else T18_0 (IntKind.wrap IntKind.i64 (t5 + 1)) h0 k
      else none
     else none
    else bif Prod.fst y != 0 then some (1, t5, Prod.fst y, ()) else T18_0 (IntKind.wrap IntKind.i64 (t5 + 1)) h0 k
 else none
 else bif decide ((↑(List.length (Prod.fst (Prod.snd h0))) : Int) > 4) then some (2, 0, 3, ()) else T18_1 0 h0 k : Option (denL [(.int .i64), (.int .i64), (.int .i64)])) = some y) : Ev fun k => T18_0 t5 h0 k = some y := U18_0 _ _ (Ev.eq (fun _ => Q18_0 _ _ _) h)
theorem R18_1 (t7 : Int) (h0 : Se) {y : denL [(.int .i64), (.int .i64), (.int .i64)]} (h : Ev fun k =>
 (bif decide (t7 < (↑(List.length (Prod.fst (Prod.snd h0))) : Int)) then
 bif decide (0 ≤ t7) && decide (t7 < (↑(List.length (Prod.fst (Prod.snd h0))) : Int)) then
   Option.bind (F87 (h0, Prod.fst (List.getD (Prod.fst (Prod.snd h0)) (Int.toNat t7) (0, 0, (0, 0, ()), ())), ())) fun (y : Bool × Unit) =>
    bif !Prod.fst y then some (2, t7, 4, ())
    else
     Option.bind (F87 (h0, Prod.fst (Prod.snd (List.getD (Prod.fst (Prod.snd h0)) (Int.toNat t7) (0, 0, (0, 0, ()), ()))), ())) fun (y : Bool × Unit) =>
      bif !Prod.fst y then some (2, t7, 4, ())
      else
       Option.bind (F86 (Prod.fst (Prod.snd (Prod.snd (List.getD (Prod.fst (Prod.snd h0)) (Int.toNat t7) (0, 0, (0, 0, ()), ())))), 0, 999, ())) fun (y : Int × Unit) =>
        bif Prod.fst y == 0 then bif decide (Prod.fst (List.getD (Prod.fst (Prod.snd h0)) (Int.toNat t7) (0, 0, (0, 0, ()), ())) > Prod.fst (Prod.snd (List.getD (Prod.fst (Prod.snd h0)) (Int.toNat t7) (0, 0, (0, 0, ()), ())))) then some (2, t7, 2, ()) else bif Prod.fst y != 0 then some (2, t7, Prod.fst y, ()) else T18_1 (IntKind.wrap IntKind.i64 (t7 + 1)) h0 k
        else bif Prod.fst y != 0 then some (2, t7, Prod.fst y, ()) else T18_1 (IntKind.wrap IntKind.i64 (t7 + 1)) h0 k
 else none
 else Option.bind (F86 (Prod.fst (Prod.snd (Prod.snd h0)), 2, 7, ())) fun (y : Int × Unit) => bif Prod.fst y != 0 then some (3, 0, Prod.fst y, ()) else some (0, 0, 0, ()) : Option (denL [(.int .i64), (.int .i64), (.int .i64)])) = some y) : Ev fun k => T18_1 t7 h0 k = some y := U18_1 _ _ (Ev.eq (fun _ => Q18_1 _ _ _) h)
theorem N18 (t0 : Se) {y : denL [(.int .i64), (.int .i64), (.int .i64)]} (h : Ev fun k =>
 (Option.bind (F85 ((↑(List.length (Prod.fst t0)) : Int), 3, 7, ())) fun (y : Bool × Unit) => bif !Prod.fst y then some (1, 0, 3, ()) else T18_0 0 t0 k : Option (denL [(.int .i64), (.int .i64), (.int .i64)])) = some y) : F18 (t0, ()) = some y := ghost_eq (Ev.eq (fun _ => E18 _ _) h)
theorem R112_0 (t3 : (List (List Int))) (t4 : Int) (h0 : Se) {y : denL [(.slice (.slice (.int .i64)))]} (h : Ev fun k =>
 (bif decide (t4 < (↑(List.length (Prod.fst h0)) : Int)) then T112_1 t3 t4 0 h0 ([]) k else some (t3, ()) : Option (denL [(.slice (.slice (.int .i64)))])) = some y) : Ev fun k => T112_0 t3 t4 h0 k = some y := U112_0 _ _ _ (Ev.eq (fun _ => Q112_0 _ _ _ _) h)
theorem R112_1 (t3 : (List (List Int))) (t4 : Int) (t6 : Int) (h0 : Se) (h1 : (List (List Int))) {y : denL [(.slice (.slice (.int .i64)))]} (h : Ev fun k =>
 (bif decide (t6 < (↑(List.length t3) : Int)) then bif decide (0 ≤ t4) && decide (t4 < (↑(List.length (Prod.fst h0)) : Int)) then T112_2 t3 t4 t6 (Prod.fst (List.getD (Prod.fst h0) (Int.toNat t4) (0, 0, ()))) h0 h1 k else none else T112_0 h1 (IntKind.wrap IntKind.i64 (t4 + 1)) h0 k : Option (denL [(.slice (.slice (.int .i64)))])) = some y) : Ev fun k => T112_1 t3 t4 t6 h0 h1 k = some y := U112_1 _ _ _ _ _ (Ev.eq (fun _ => Q112_1 _ _ _ _ _ _) h)
theorem R112_2 (t3 : (List (List Int))) (t4 : Int) (t6 : Int) (t7 : Int) (h0 : Se) (h1 : (List (List Int))) {y : denL [(.slice (.slice (.int .i64)))]} (h : Ev fun k =>
 (bif decide (0 ≤ t4) && decide (t4 < (↑(List.length (Prod.fst h0)) : Int)) then
 bif decide (t7 ≤ Prod.fst (Prod.snd (List.getD (Prod.fst h0) (Int.toNat t4) (0, 0, ())))) then
   bif decide (0 ≤ t6) && decide (t6 < (↑(List.length t3) : Int)) then
    bif decide (List.length (List.getD t3 (Int.toNat t6) []) ≤ 2147483648) then
     bif decide (List.length (List.getD t3 (Int.toNat t6) []) + List.length (List.set (List.replicate 1 0) 0 t7) ≤ 2147483648) then
      bif decide (List.length h1 + List.length (List.set (List.replicate 1 []) 0 (List.getD t3 (Int.toNat t6) [] ++ List.set (List.replicate 1 0) 0 t7)) ≤ 2147483648) then T112_2 t3 t4 t6 (IntKind.wrap IntKind.i64 (t7 + 1)) h0 (h1 ++ List.set (List.replicate 1 []) 0 (List.getD t3 (Int.toNat t6) [] ++ List.set (List.replicate 1 0) 0 t7)) k else none
     else none
    else none
   else none
 else T112_1 t3 t4 (IntKind.wrap IntKind.i64 (t6 + 1)) h0 h1 k
 else none : Option (denL [(.slice (.slice (.int .i64)))])) = some y) : Ev fun k => T112_2 t3 t4 t6 t7 h0 h1 k = some y := U112_2 _ _ _ _ _ _ (Ev.eq (fun _ => Q112_2 _ _ _ _ _ _ _) h)
theorem N112 (t0 : Se) {y : denL [(.slice (.slice (.int .i64)))]} (h : Ev fun k =>
 (T112_0 ([] :: List.replicate 0 []) 0 t0 k : Option (denL [(.slice (.slice (.int .i64)))])) = some y) : F112 (t0, ()) = some y := ghost_eq (Ev.eq (fun _ => E112 _ _) h)
theorem R47_0 (t0 : (List Int)) (t2 : Int) (t7 : Int) (t8 : Int) {y : denL [(.int .i64)]} (h : Ev fun k =>
 (bif decide (t8 ≤ t2) then bif decide (0 ≤ t8) && decide (t8 < (↑(List.length t0) : Int)) then T47_0 t0 t2 (IntKind.wrap IntKind.i64 (t7 + List.getD t0 (Int.toNat t8) 0)) (IntKind.wrap IntKind.i64 (t8 + 1)) k else none else some (t7, ()) : Option (denL [(.int .i64)])) = some y) : Ev fun k => T47_0 t0 t2 t7 t8 k = some y := U47_0 _ _ _ _ (Ev.eq (fun _ => Q47_0 _ _ _ _ _) h)
theorem N47 (t0 : (List Int)) (t1 : Int) (t2 : Int) {y : denL [(.int .i64)]} (h : Ev fun k =>
 (T47_0 t0 t2 0 t1 k : Option (denL [(.int .i64)])) = some y) : F47 (t0, (t1, (t2, ()))) = some y := ghost_eq (Ev.eq (fun _ => E47 _ _ _ _) h)
theorem R40_0 (t0 : (List Int)) (t4 : Int) (h0 : (List Int)) {y : denL [(.slice (.int .i64))]} (h : Ev fun k =>
 (bif decide (IntKind.wrap IntKind.i64 (t4 + 1) < (↑(List.length t0) : Int)) then
 bif decide (0 ≤ t4) && decide (t4 < (↑(List.length t0) : Int)) then
   bif decide (0 ≤ IntKind.wrap IntKind.i64 (t4 - 1)) && decide (IntKind.wrap IntKind.i64 (t4 - 1) < (↑(List.length t0) : Int)) then
    bif decide (List.getD t0 (Int.toNat t4) 0 > List.getD t0 (Int.toNat (IntKind.wrap IntKind.i64 (t4 - 1))) 0) then
     bif decide (0 ≤ t4) && decide (t4 < (↑(List.length t0) : Int)) then
      bif decide (0 ≤ IntKind.wrap IntKind.i64 (t4 + 1)) && decide (IntKind.wrap IntKind.i64 (t4 + 1) < (↑(List.length t0) : Int)) then
       bif decide (List.getD t0 (Int.toNat t4) 0 > List.getD t0 (Int.toNat (IntKind.wrap IntKind.i64 (t4 + 1))) 0) then bif decide (List.length h0 + List.length (List.set (List.replicate 1 0) 0 t4) ≤ 2147483648) then T40_0 t0 (IntKind.wrap IntKind.i64 (t4 + 1)) (h0 ++ List.set (List.replicate 1 0) 0 t4) k else none
       else T40_0 t0 (IntKind.wrap IntKind.i64 (t4 + 1)) h0 k
      else none
     else none
    else T40_0 t0 (IntKind.wrap IntKind.i64 (t4 + 1)) h0 k
   else none
 else none
 else some (h0, ()) : Option (denL [(.slice (.int .i64))])) = some y) : Ev fun k => T40_0 t0 t4 h0 k = some y := U40_0 _ _ _ (Ev.eq (fun _ => Q40_0 _ _ _ _) h)
theorem N40 (t0 : (List Int)) {y : denL [(.slice (.int .i64))]} (h : Ev fun k =>
 (T40_0 t0 1 ([]) k : Option (denL [(.slice (.int .i64))])) = some y) : F40 (t0, ()) = some y := ghost_eq (Ev.eq (fun _ => E40 _ _) h)
theorem N42 (t0 : Int) (t1 : Sp) {y : denL [.bool]} (h : Ev fun _ =>
 (Option.bind (F85 (t0, Prod.fst t1, Prod.fst (Prod.snd t1), ())) fun (y : Bool × Unit) => some (Prod.fst y, ()) : Option (denL [.bool])) = some y) : F42 (t0, (t1, ())) = some y := ghost_eq (Ev.eq (fun _ => E42 _ _ _) h)
theorem R110_0 (t5 : (List Int)) (t6 : Bool) (t7 : Int) (h0 : Sp) {y : denL [.bool]} (h : Ev fun k =>
 (bif decide (t7 < (↑(List.length t5) : Int)) then
 bif t6 then
   bif decide (0 ≤ t7) && decide (t7 < (↑(List.length t5) : Int)) then
    bif decide (0 ≤ IntKind.wrap IntKind.i64 (t7 - 1)) && decide (IntKind.wrap IntKind.i64 (t7 - 1) < (↑(List.length t5) : Int)) then Option.bind (F42 (IntKind.wrap IntKind.i64 (List.getD t5 (Int.toNat t7) 0 - List.getD t5 (Int.toNat (IntKind.wrap IntKind.i64 (t7 - 1))) 0), h0, ())) fun (y : Bool × Unit) => T110_0 t5 (Prod.fst y) (IntKind.wrap IntKind.i64 (t7 + 1)) h0 k
    else none
   else none
 else T110_0 t5 false (IntKind.wrap IntKind.i64 (t7 + 1)) h0 k
 else some (t6, ()) : Option (denL [.bool])) = some y) : Ev fun k => T110_0 t5 t6 t7 h0 k = some y := U110_0 _ _ _ _ (Ev.eq (fun _ => Q110_0 _ _ _ _ _) h)
theorem N110 (t0 : (List Int)) (t1 : Sp) {y : denL [.bool]} (h : Ev fun k =>
 (Option.bind (F40 (t0, ())) fun (y : List Int × Unit) => T110_0 (Prod.fst y) true 1 t1 k : Option (denL [.bool])) = some y) : F110 (t0, (t1, ())) = some y := ghost_eq (Ev.eq (fun _ => E110 _ _ _) h)
theorem R52_0 (t3 : (List (List Int))) (t5 : Int) (h0 : Se) (h1 : (List (List Int))) {y : denL [(.slice (.slice (.int .i64)))]} (h : Ev fun k =>
 (bif decide (t5 < (↑(List.length t3) : Int)) then bif decide (0 ≤ t5) && decide (t5 < (↑(List.length t3) : Int)) then Option.bind (F110 (List.getD t3 (Int.toNat t5) [], Prod.fst (Prod.snd (Prod.snd h0)), ())) fun (y : Bool × Unit) => T52_1 t3 t5 (Prod.fst y) 0 h0 h1 k else none else some (h1, ()) : Option (denL [(.slice (.slice (.int .i64)))])) = some y) : Ev fun k => T52_0 t3 t5 h0 h1 k = some y := U52_0 _ _ _ _ (Ev.eq (fun _ => Q52_0 _ _ _ _ _) h)
theorem R52_1 (t3 : (List (List Int))) (t5 : Int) (t6 : Bool) (t7 : Int) (h0 : Se) (h1 : (List (List Int))) {y : denL [(.slice (.slice (.int .i64)))]} (h : Ev fun k =>
 (bif decide (t7 < (↑(List.length (Prod.fst (Prod.snd h0))) : Int)) then
 bif t6 then
   bif decide (0 ≤ t7) && decide (t7 < (↑(List.length (Prod.fst (Prod.snd h0))) : Int)) then
    bif decide (0 ≤ t5) && decide (t5 < (↑(List.length t3) : Int)) then
     Option.bind (F47 (List.getD t3 (Int.toNat t5) [], Prod.fst (List.getD (Prod.fst (Prod.snd h0)) (Int.toNat t7) (0, 0, (0, 0, ()), ())), Prod.fst (Prod.snd (List.getD (Prod.fst (Prod.snd h0)) (Int.toNat t7) (0, 0, (0, 0, ()), ()))), ())) fun (y : Int × Unit) =>
      Option.bind (F42 (Prod.fst y, Prod.fst (Prod.snd (Prod.snd (List.getD (Prod.fst (Prod.snd h0)) (Int.toNat t7) (0, 0, (0, 0, ()), ())))), ())) fun (y : Bool × Unit) => T52_1 t3 t5 (Prod.fst y) (IntKind.wrap IntKind.i64 (t7 + 1)) h0 h1 k
    else none
   else none
 else
   bif t6 then bif decide (0 ≤ t5) && decide (t5 < (↑(List.length t3) : Int)) then bif decide (List.length h1 + List.length (List.set (List.replicate 1 []) 0 (List.getD t3 (Int.toNat t5) [])) ≤ 2147483648) then T52_0 t3 (IntKind.wrap IntKind.i64 (t5 + 1)) h0 (h1 ++ List.set (List.replicate 1 []) 0 (List.getD t3 (Int.toNat t5) [])) k else none else none
   else T52_0 t3 (IntKind.wrap IntKind.i64 (t5 + 1)) h0 h1 k
 else
 bif t6 then bif decide (0 ≤ t5) && decide (t5 < (↑(List.length t3) : Int)) then bif decide (List.length h1 + List.length (List.set (List.replicate 1 []) 0 (List.getD t3 (Int.toNat t5) [])) ≤ 2147483648) then T52_0 t3 (IntKind.wrap IntKind.i64 (t5 + 1)) h0 (h1 ++ List.set (List.replicate 1 []) 0 (List.getD t3 (Int.toNat t5) [])) k else none else none
 else T52_0 t3 (IntKind.wrap IntKind.i64 (t5 + 1)) h0 h1 k : Option (denL [(.slice (.slice (.int .i64)))])) = some y) : Ev fun k => T52_1 t3 t5 t6 t7 h0 h1 k = some y := U52_1 _ _ _ _ _ _ (Ev.eq (fun _ => Q52_1 _ _ _ _ _ _ _) h)
theorem N52 (t0 : Se) {y : denL [(.slice (.slice (.int .i64)))]} (h : Ev fun k =>
 (Option.bind (F112 (t0, ())) fun (y : List (List Int) × Unit) => T52_0 (Prod.fst y) 0 t0 ([]) k : Option (denL [(.slice (.slice (.int .i64)))])) = some y) : F52 (t0, ()) = some y := ghost_eq (Ev.eq (fun _ => E52 _ _) h)
end Go.Proofs.YtkbephbhajplhaaDoor
