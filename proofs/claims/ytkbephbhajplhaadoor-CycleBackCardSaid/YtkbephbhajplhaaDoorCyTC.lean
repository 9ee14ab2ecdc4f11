/- The states at the cuts of the reference (a). Conditions: none (abbreviations). -/
import Derived.Test.YtkbephbhajplhaaDoorCyR
import Derived.Test.YtkbephbhajplhaaDoorGhI
namespace Go.Proofs.YtkbephbhajplhaaDoor
open Go Go.Gh Go.Proofs
noncomputable abbrev T18_0 (t5 : Int) (h0 : Se) (f : Nat) : Option (denL [(.int .i64), (.int .i64), (.int .i64)]) := iter cx87 S18 [(.int .i64), (.int .i64), (.int .i64)] 6000 f 0 K18_0 ((((), (t5, ())), ()), (h0, ()))
theorem U18_0 (t5 : Int) (h0 : Se) {y : denL [(.int .i64), (.int .i64), (.int .i64)]} (h : Ev fun k => seg cx87 S18 [(.int .i64), (.int .i64), (.int .i64)] 6000 some (iter cx87 S18 [(.int .i64), (.int .i64), (.int .i64)] 6000 k) 0 K18_0 ((((), (t5, ())), ()), (h0, ())) = some y) : Ev fun k => T18_0 t5 h0 k = some y := iter_ev h
noncomputable abbrev T18_1 (t7 : Int) (h0 : Se) (f : Nat) : Option (denL [(.int .i64), (.int .i64), (.int .i64)]) := iter cx87 S18 [(.int .i64), (.int .i64), (.int .i64)] 6000 f 1 K18_1 ((((), (t7, ())), ()), (h0, ()))
theorem U18_1 (t7 : Int) (h0 : Se) {y : denL [(.int .i64), (.int .i64), (.int .i64)]} (h : Ev fun k => seg cx87 S18 [(.int .i64), (.int .i64), (.int .i64)] 6000 some (iter cx87 S18 [(.int .i64), (.int .i64), (.int .i64)] 6000 k) 1 K18_1 ((((), (t7, ())), ()), (h0, ())) = some y) : Ev fun k => T18_1 t7 h0 k = some y := iter_ev h
end Go.Proofs.YtkbephbhajplhaaDoor
/- The equations at the cuts of the reference, with the states' names (a). Conditions: none. (Printed by rest.py.) -/
namespace Go.Proofs.YtkbephbhajplhaaDoor
open Go Go.Gh Go.Proofs
theorem N85 (t0 : Int) (t1 : Int) (t2 : Int) {y : denL [.bool]} (h : Ev fun _ =>
 (bif decide (t1 ≤ t0) then some (decide (t0 ≤ t2), ()) else some (false, ()) : Option (denL [.bool])) = some y) : F85 (t0, (t1, (t2, ()))) = some y := ghost_eq (Ev.eq (fun _ => E85 _ _ _ _) h)
theorem N86 (t0 : Sp) (t1 : Int) (t2 : Int) {y : denL [(.int .i64)]} (h : Ev fun _ =>
 (Option.bind (F85 (Prod.fst t0, t1, t2, ())) fun (y : Bool × Unit) => bif !Prod.fst y then some (7, ()) else Option.bind (F85 (Prod.fst (Prod.snd t0), t1, t2, ())) fun (y : Bool × Unit) => bif !Prod.fst y then some (7, ()) else bif decide (Prod.fst t0 > Prod.fst (Prod.snd t0)) then some (2, ()) else some (0, ()) : Option (denL [(.int .i64)])) = some y) : F86 (t0, (t1, (t2, ()))) = some y := ghost_eq (Ev.eq (fun _ => E86 _ _ _ _) h)
theorem N87 (t0 : Se) (t1 : Int) {y : denL [.bool]} (h : Ev fun _ =>
 (Option.bind (F85 (t1, 0, IntKind.wrap IntKind.i64 ((↑(List.length (Prod.fst t0)) : Int) - 1), ())) fun (y : Bool × Unit) => some (Prod.fst y, ()) : Option (denL [.bool])) = some y) : F87 (t0, (t1, ())) = some y := ghost_eq (Ev.eq (fun _ => E87 _ _ _) h)
theorem R18_0 (t5 : Int) (h0 : Se) {y : denL [(.int .i64), (.int .i64), (.int .i64)]} (h : Ev fun k =>
 (bif decide (t5 < (↑(List.length (Prod.fst h0)) : Int)) then
 bif decide (0 ≤ t5) && decide (t5 < (↑(List.length (Prod.fst h0)) : Int)) then
  Option.bind (F86 (List.getD (Prod.fst h0) (Int.toNat t5) (0, 0, ()), 0, 99, ())) fun (y : Int × Unit) =>
   bif Prod.fst y == 0 then
    bif decide (0 ≤ t5) && decide (t5 < (↑(List.length (Prod.fst h0)) : Int)) then
     bif decide (0 ≤ t5) && decide (t5 < (↑(List.length (Prod.fst h0)) : Int)) then
      bif decide (IntKind.wrap IntKind.i64 (Prod.fst (Prod.snd (List.getD (Prod.fst h0) (Int.toNat t5) (0, 0, ()))) - Prod.fst (List.getD (Prod.fst h0) (Int.toNat t5) (0, 0, ()))) > 3) then some (1, t5, 2, ()) else bif Prod.fst y != 0 then some (1, t5, Prod.fst y, ()) else T18_0 (IntKind.wrap IntKind.i64 (t5 + 1)) h0 k
     else none
    else none
   else bif Prod.fst y != 0 then some (1, t5, Prod.fst y, ()) else T18_0 (IntKind.wrap IntKind.i64 (t5 + 1)) h0 k
 else none
 else bif decide ((↑(List.length (Prod.fst (Prod.snd h0))) : Int) > 4) then some (2, 0, 3, ()) else T18_1 0 h0 k : Option (denL [(.int .i64), (.int .i64), (.int .i64)])) = some y) : Ev fun k => T18_0 t5 h0 k = some y := U18_0 _ _ (Ev.eq (fun _ => Q18_0 _ _ _) h)
theorem R18_1 (t7 : Int) (h0 : Se) {y : denL [(.int .i64), (.int .i64), (.int .i64)]} (h : Ev fun k =>
 (bif decide (t7 < (↑(List.length (Prod.fst (Prod.snd h0))) : Int)) then
 bif decide (0 ≤ t7) && decide (t7 < (↑(List.length (Prod.fst (Prod.snd h0))) : Int)) then
  Option.bind (F87 (h0, Prod.fst (List.getD (Prod.fst (Prod.snd h0)) (Int.toNat t7) (0, 0, (0, 0, ()), ())), ())) fun (y : Bool × Unit) =>
   bif !Prod.fst y then some (2, t7, 4, ())
   else
    Option.bind (F87 (h0, Prod.fst (Prod.snd (List.getD (Prod.fst (Prod.snd h0)) (Int.toNat t7) (0, 0, (0, 0, ()), ()))), ())) fun (y : Bool × Unit) =>
     bif !Prod.fst y then some (2, t7, 4, ())
     else
      Option.bind (F86 (Prod.fst (Prod.snd (Prod.snd (List.getD (Prod.fst (Prod.snd h0)) (Int.toNat t7) (0, 0, (0, 0, ()), ())))), 0, 999, ())) fun (y : Int × Unit) =>
       bif Prod.fst y == 0 then bif decide (Prod.fst (List.getD (Prod.fst (Prod.snd h0)) (Int.toNat t7) (0, 0, (0, 0, ()), ())) > Prod.fst (Prod.snd (List.getD (Prod.fst (Prod.snd h0)) (Int.toNat t7) (0, 0, (0, 0, ()), ())))) then some (2, t7, 2, ()) else bif Prod.fst y != 0 then some (2, t7, Prod.fst y, ()) else T18_1 (IntKind.wrap IntKind.i64 (t7 + 1)) h0 k
       else bif Prod.fst y != 0 then some (2, t7, Prod.fst y, ()) else T18_1 (IntKind.wrap IntKind.i64 (t7 + 1)) h0 k
 else none
 else Option.bind (F86 (Prod.fst (Prod.snd (Prod.snd h0)), 2, 7, ())) fun (y : Int × Unit) => bif Prod.fst y != 0 then some (3, 0, Prod.fst y, ()) else some (0, 0, 0, ()) : Option (denL [(.int .i64), (.int .i64), (.int .i64)])) = some y) : Ev fun k => T18_1 t7 h0 k = some y := U18_1 _ _ (Ev.eq (fun _ => Q18_1 _ _ _) h)
theorem N18 (t0 : Se) {y : denL [(.int .i64), (.int .i64), (.int .i64)]} (h : Ev fun k =>
 (Option.bind (F85 ((↑(List.length (Prod.fst t0)) : Int), 3, 7, ())) fun (y : Bool × Unit) => bif !Prod.fst y then some (1, 0, 3, ()) else T18_0 0 t0 k : Option (denL [(.int .i64), (.int .i64), (.int .i64)])) = some y) : F18 (t0, ()) = some y := ghost_eq (Ev.eq (fun _ => E18 _ _) h)
end Go.Proofs.YtkbephbhajplhaaDoor
