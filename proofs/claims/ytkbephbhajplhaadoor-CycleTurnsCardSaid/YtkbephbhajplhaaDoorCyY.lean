/- The states at the cuts of the reference (b). Conditions: none (abbreviations). -/
import Derived.Test.YtkbephbhajplhaaDoorCyR
import Derived.Test.YtkbephbhajplhaaDoorGhI
import Derived.Test.YtkbephbhajplhaaDoorCyN
namespace Go.Proofs.YtkbephbhajplhaaDoor
open Go Go.Gh Go.Proofs
noncomputable abbrev T41_0 (t0 : (List Int)) (t4 : Int) (h0 : (List Int)) (f : Nat) : Option (denL [(.slice (.int .i64))]) := iter cx40 S41 [(.slice (.int .i64))] 6000 f 0 K41_0 (((t0, ((), (t4, ()))), ()), (h0, ()))
theorem U41_0 (t0 : (List Int)) (t4 : Int) (h0 : (List Int)) {y : denL [(.slice (.int .i64))]} (h : Ev fun k => seg cx40 S41 [(.slice (.int .i64))] 6000 some (iter cx40 S41 [(.slice (.int .i64))] 6000 k) 0 K41_0 (((t0, ((), (t4, ()))), ()), (h0, ())) = some y) : Ev fun k => T41_0 t0 t4 h0 k = some y := iter_ev h
noncomputable abbrev T44_0 (t0 : (List Int)) (t1 : Int) (t5 : Int) (f : Nat) : Option (denL [.bool]) := iter cx22 S44 [.bool] 6000 f 0 K44_0 (((t0, (t1, (t5, ()))), ()), ())
theorem U44_0 (t0 : (List Int)) (t1 : Int) (t5 : Int) {y : denL [.bool]} (h : Ev fun k => seg cx22 S44 [.bool] 6000 some (iter cx22 S44 [.bool] 6000 k) 0 K44_0 (((t0, (t1, (t5, ()))), ()), ()) = some y) : Ev fun k => T44_0 t0 t1 t5 k = some y := iter_ev h
noncomputable abbrev T25_0 (t1 : Int) (t7 : (List (List Int))) (t9 : Int) (t10 : Int) (t11 : Int) (f : Nat) : Option (denL [(.int .i64), (.int .i64), (.int .i64)]) := iter cx98 S25 [(.int .i64), (.int .i64), (.int .i64)] 6000 f 0 K25_0 (((t1, (t7, (t9, (t10, (t11, ()))))), ()), ())
theorem U25_0 (t1 : Int) (t7 : (List (List Int))) (t9 : Int) (t10 : Int) (t11 : Int) {y : denL [(.int .i64), (.int .i64), (.int .i64)]} (h : Ev fun k => seg cx98 S25 [(.int .i64), (.int .i64), (.int .i64)] 6000 some (iter cx98 S25 [(.int .i64), (.int .i64), (.int .i64)] 6000 k) 0 K25_0 (((t1, (t7, (t9, (t10, (t11, ()))))), ()), ()) = some y) : Ev fun k => T25_0 t1 t7 t9 t10 t11 k = some y := iter_ev h
noncomputable abbrev T102_0 (t0 : (List Int)) (t5 : Int) (h0 : Sp) (h1 : Sp) (f : Nat) : Option (denL [tSp, (.int .i64)]) := iter cx25 S102 [tSp, (.int .i64)] 6000 f 0 K102_0 (((t0, ((), ((), (t5, ())))), ()), (h0, (h1, ())))
theorem U102_0 (t0 : (List Int)) (t5 : Int) (h0 : Sp) (h1 : Sp) {y : denL [tSp, (.int .i64)]} (h : Ev fun k => seg cx25 S102 [tSp, (.int .i64)] 6000 some (iter cx25 S102 [tSp, (.int .i64)] 6000 k) 0 K102_0 (((t0, ((), ((), (t5, ())))), ()), (h0, (h1, ()))) = some y) : Ev fun k => T102_0 t0 t5 h0 h1 k = some y := iter_ev h
noncomputable abbrev T27_0 (t7 : (List (List Int))) (t9 : Int) (h0 : Sp) (h1 : (List Int)) (f : Nat) : Option (denL [tSp, (.int .i64)]) := iter cx102 S27 [tSp, (.int .i64)] 6000 f 0 K27_0 ((((), (t7, ((), (t9, ())))), ()), (h0, (h1, ())))
theorem U27_0 (t7 : (List (List Int))) (t9 : Int) (h0 : Sp) (h1 : (List Int)) {y : denL [tSp, (.int .i64)]} (h : Ev fun k => seg cx102 S27 [tSp, (.int .i64)] 6000 some (iter cx102 S27 [tSp, (.int .i64)] 6000 k) 0 K27_0 ((((), (t7, ((), (t9, ())))), ()), (h0, (h1, ()))) = some y) : Ev fun k => T27_0 t7 t9 h0 h1 k = some y := iter_ev h
noncomputable abbrev T27_1 (t7 : (List (List Int))) (t9 : Int) (t10 : (List Int)) (t11 : Int) (h0 : Sp) (h1 : (List Int)) (f : Nat) : Option (denL [tSp, (.int .i64)]) := iter cx102 S27 [tSp, (.int .i64)] 6000 f 1 K27_1 ((((), (t7, ((), (t9, (t10, (t11, ())))))), ()), (h0, (h1, ())))
theorem U27_1 (t7 : (List (List Int))) (t9 : Int) (t10 : (List Int)) (t11 : Int) (h0 : Sp) (h1 : (List Int)) {y : denL [tSp, (.int .i64)]} (h : Ev fun k => seg cx102 S27 [tSp, (.int .i64)] 6000 some (iter cx102 S27 [tSp, (.int .i64)] 6000 k) 1 K27_1 ((((), (t7, ((), (t9, (t10, (t11, ())))))), ()), (h0, (h1, ()))) = some y) : Ev fun k => T27_1 t7 t9 t10 t11 h0 h1 k = some y := iter_ev h
noncomputable abbrev T50_0 (t0 : (List Int)) (t6 : Int) (t7 : Int) (t9 : Int) (h0 : Sp) (h1 : (List Int)) (f : Nat) : Option (denL [(.slice (.int .i64))]) := iter cx27 S50 [(.slice (.int .i64))] 6000 f 0 K50_0 (((t0, ((), (t6, (t7, ((), (t9, ())))))), ()), (h0, (h1, ())))
theorem U50_0 (t0 : (List Int)) (t6 : Int) (t7 : Int) (t9 : Int) (h0 : Sp) (h1 : (List Int)) {y : denL [(.slice (.int .i64))]} (h : Ev fun k => seg cx27 S50 [(.slice (.int .i64))] 6000 some (iter cx27 S50 [(.slice (.int .i64))] 6000 k) 0 K50_0 (((t0, ((), (t6, (t7, ((), (t9, ())))))), ()), (h0, (h1, ()))) = some y) : Ev fun k => T50_0 t0 t6 t7 t9 h0 h1 k = some y := iter_ev h
noncomputable abbrev T29_0 (t7 : (List (List Int))) (t9 : Int) (h0 : Se) (h1 : Sp) (h2 : (List Int)) (f : Nat) : Option (denL [tSp, (.int .i64)]) := iter cx50 S29 [tSp, (.int .i64)] 6000 f 0 K29_0 ((((), ((), (t7, ((), (t9, ()))))), ()), (h0, (h1, (h2, ()))))
theorem U29_0 (t7 : (List (List Int))) (t9 : Int) (h0 : Se) (h1 : Sp) (h2 : (List Int)) {y : denL [tSp, (.int .i64)]} (h : Ev fun k => seg cx50 S29 [tSp, (.int .i64)] 6000 some (iter cx50 S29 [tSp, (.int .i64)] 6000 k) 0 K29_0 ((((), ((), (t7, ((), (t9, ()))))), ()), (h0, (h1, (h2, ())))) = some y) : Ev fun k => T29_0 t7 t9 h0 h1 h2 k = some y := iter_ev h
end Go.Proofs.YtkbephbhajplhaaDoor
/- The equations at the cuts of the reference, with the states' names (b). Conditions: none. (Printed by rest.py.) -/
namespace Go.Proofs.YtkbephbhajplhaaDoor
open Go Go.Gh Go.Proofs
theorem R41_0 (t0 : (List Int)) (t4 : Int) (h0 : (List Int)) {y : denL [(.slice (.int .i64))]} (h : Ev fun k =>
 (bif decide (IntKind.wrap IntKind.i64 (t4 + 1) < (↑(List.length t0) : Int)) then
 bif decide (0 ≤ t4) && decide (t4 < (↑(List.length t0) : Int)) then
   bif decide (0 ≤ IntKind.wrap IntKind.i64 (t4 - 1)) && decide (IntKind.wrap IntKind.i64 (t4 - 1) < (↑(List.length t0) : Int)) then
    bif decide (List.getD t0 (Int.toNat t4) 0 < List.getD t0 (Int.toNat (IntKind.wrap IntKind.i64 (t4 - 1))) 0) then
     bif decide (0 ≤ t4) && decide (t4 < (↑(List.length t0) : Int)) then
      bif decide (0 ≤ IntKind.wrap IntKind.i64 (t4 + 1)) && decide (IntKind.wrap IntKind.i64 (t4 + 1) < (↑(List.length t0) : Int)) then
       bif decide (List.getD t0 (Int.toNat t4) 0 < List.getD t0 (Int.toNat (IntKind.wrap IntKind.i64 (t4 + 1))) 0) then bif decide (List.length h0 + List.length (List.set (List.replicate 1 0) 0 t4) ≤ 2147483648) then T41_0 t0 (IntKind.wrap IntKind.i64 (t4 + 1)) (h0 ++ List.set (List.replicate 1 0) 0 t4) k else none
       else T41_0 t0 (IntKind.wrap IntKind.i64 (t4 + 1)) h0 k
      else none
     else none
    else T41_0 t0 (IntKind.wrap IntKind.i64 (t4 + 1)) h0 k
   else none
 else none
 else some (h0, ()) : Option (denL [(.slice (.int .i64))])) = some y) : Ev fun k => T41_0 t0 t4 h0 k = some y := U41_0 _ _ _ (Ev.eq (fun _ => Q41_0 _ _ _ _) h)
theorem N41 (t0 : (List Int)) {y : denL [(.slice (.int .i64))]} (h : Ev fun k =>
 (T41_0 t0 1 ([]) k : Option (denL [(.slice (.int .i64))])) = some y) : F41 (t0, ()) = some y := ghost_eq (Ev.eq (fun _ => E41 _ _) h)
theorem R44_0 (t0 : (List Int)) (t1 : Int) (t5 : Int) {y : denL [.bool]} (h : Ev fun k =>
 (bif decide (t5 < (↑(List.length t0) : Int)) then bif decide (0 ≤ t5) && decide (t5 < (↑(List.length t0) : Int)) then bif List.getD t0 (Int.toNat t5) 0 == t1 then some (true, ()) else T44_0 t0 t1 (IntKind.wrap IntKind.i64 (t5 + 1)) k else none else some (false, ()) : Option (denL [.bool])) = some y) : Ev fun k => T44_0 t0 t1 t5 k = some y := U44_0 _ _ _ (Ev.eq (fun _ => Q44_0 _ _ _ _) h)
theorem N44 (t0 : (List Int)) (t1 : Int) {y : denL [.bool]} (h : Ev fun k =>
 (T44_0 t0 t1 0 k : Option (denL [.bool])) = some y) : F44 (t0, (t1, ())) = some y := ghost_eq (Ev.eq (fun _ => E44 _ _ _) h)
theorem N98 (t0 : Int) (t1 : Int) {y : denL [(.int .i64)]} (h : Ev fun _ =>
 (bif t0 == t1 then some (1, ()) else bif t0 == 0 then some (2, ()) else some (0, ()) : Option (denL [(.int .i64)])) = some y) : F98 (t0, (t1, ())) = some y := ghost_eq (Ev.eq (fun _ => E98 _ _ _) h)
theorem R25_0 (t1 : Int) (t7 : (List (List Int))) (t9 : Int) (t10 : Int) (t11 : Int) {y : denL [(.int .i64), (.int .i64), (.int .i64)]} (h : Ev fun k =>
 (bif decide (t11 < (↑(List.length t7) : Int)) then
 bif decide (0 ≤ t11) && decide (t11 < (↑(List.length t7) : Int)) then
   Option.bind (F40 (List.getD t7 (Int.toNat t11) [], ())) fun (y : List Int × Unit) =>
    Option.bind (F44 (Prod.fst y, t1, ())) fun (y : Bool × Unit) =>
     bif Prod.fst y then
      bif decide (0 ≤ t11) && decide (t11 < (↑(List.length t7) : Int)) then
       Option.bind (F41 (List.getD t7 (Int.toNat t11) [], ())) fun (y : List Int × Unit) =>
        Option.bind (F44 (Prod.fst y, t1, ())) fun (y : Bool × Unit) => bif Prod.fst y then T25_0 t1 t7 (IntKind.wrap IntKind.i64 (t9 + 1)) (IntKind.wrap IntKind.i64 (t10 + 1)) (IntKind.wrap IntKind.i64 (t11 + 1)) k else T25_0 t1 t7 (IntKind.wrap IntKind.i64 (t9 + 1)) t10 (IntKind.wrap IntKind.i64 (t11 + 1)) k
      else none
     else
      bif decide (0 ≤ t11) && decide (t11 < (↑(List.length t7) : Int)) then
       Option.bind (F41 (List.getD t7 (Int.toNat t11) [], ())) fun (y : List Int × Unit) => Option.bind (F44 (Prod.fst y, t1, ())) fun (y : Bool × Unit) => bif Prod.fst y then T25_0 t1 t7 t9 (IntKind.wrap IntKind.i64 (t10 + 1)) (IntKind.wrap IntKind.i64 (t11 + 1)) k else T25_0 t1 t7 t9 t10 (IntKind.wrap IntKind.i64 (t11 + 1)) k
      else none
 else none
 else Option.bind (F98 (t9, (↑(List.length t7) : Int), ())) fun (y : Int × Unit) => Option.bind (F98 (t10, (↑(List.length t7) : Int), ())) fun (y_1 : Int × Unit) => some (Prod.fst y, Prod.fst y_1, 0, ()) : Option (denL [(.int .i64), (.int .i64), (.int .i64)])) = some y) : Ev fun k => T25_0 t1 t7 t9 t10 t11 k = some y := U25_0 _ _ _ _ _ (Ev.eq (fun _ => Q25_0 _ _ _ _ _ _) h)
theorem N25 (t0 : Se) (t1 : Int) {y : denL [(.int .i64), (.int .i64), (.int .i64)]} (h : Ev fun k =>
 (Option.bind (F91 (t0, t1, ())) fun (y : Int × Unit) => Option.bind (F90 (t0, Prod.fst y, ())) fun (y : List (List Int) × Int × Unit) => bif Prod.fst (Prod.snd y) != 0 then some (0, 0, Prod.fst (Prod.snd y), ()) else T25_0 t1 (Prod.fst y) 0 0 0 k : Option (denL [(.int .i64), (.int .i64), (.int .i64)])) = some y) : F25 (t0, (t1, ())) = some y := ghost_eq (Ev.eq (fun _ => E25 _ _ _) h)
theorem R102_0 (t0 : (List Int)) (t5 : Int) (h0 : Sp) (h1 : Sp) {y : denL [tSp, (.int .i64)]} (h : Ev fun k =>
 (bif decide (t5 < (↑(List.length t0) : Int)) then bif decide (0 ≤ t5) && decide (t5 < (↑(List.length t0) : Int)) then Option.bind (F92 (h1, List.getD t0 (Int.toNat t5) 0, ())) fun (y : Sp × Unit) => T102_0 t0 (IntKind.wrap IntKind.i64 (t5 + 1)) h0 (Prod.fst y) k else none else some (h1, 0, ()) : Option (denL [tSp, (.int .i64)])) = some y) : Ev fun k => T102_0 t0 t5 h0 h1 k = some y := U102_0 _ _ _ _ (Ev.eq (fun _ => Q102_0 _ _ _ _ _) h)
theorem N102 (t0 : (List Int)) {y : denL [tSp, (.int .i64)]} (h : Ev fun k =>
 (bif (↑(List.length t0) : Int) == 0 then some ((0, 0, ()), 9, ()) else bif true && decide (0 < (↑(List.length t0) : Int)) then bif true && decide (0 < (↑(List.length t0) : Int)) then T102_0 t0 1 (0, 0, ()) (List.getD t0 0 0, List.getD t0 0 0, ()) k else none else none : Option (denL [tSp, (.int .i64)])) = some y) : F102 (t0, ()) = some y := ghost_eq (Ev.eq (fun _ => E102 _ _) h)
theorem R27_0 (t7 : (List (List Int))) (t9 : Int) (h0 : Sp) (h1 : (List Int)) {y : denL [tSp, (.int .i64)]} (h : Ev fun k =>
 (bif decide (t9 < (↑(List.length t7) : Int)) then bif decide (0 ≤ t9) && decide (t9 < (↑(List.length t7) : Int)) then Option.bind (F40 (List.getD t7 (Int.toNat t9) [], ())) fun (y : List Int × Unit) => T27_1 t7 t9 (Prod.fst y) 1 h0 h1 k else none else Option.bind (F102 (h1, ())) fun (y : Sp × Int × Unit) => some (Prod.fst y, Prod.fst (Prod.snd y), ()) : Option (denL [tSp, (.int .i64)])) = some y) : Ev fun k => T27_0 t7 t9 h0 h1 k = some y := U27_0 _ _ _ _ (Ev.eq (fun _ => Q27_0 _ _ _ _ _) h)
theorem R27_1 (t7 : (List (List Int))) (t9 : Int) (t10 : (List Int)) (t11 : Int) (h0 : Sp) (h1 : (List Int)) {y : denL [tSp, (.int .i64)]} (h : Ev fun k =>
 (bif decide (t11 < (↑(List.length t10) : Int)) then
 bif decide (0 ≤ t11) && decide (t11 < (↑(List.length t10) : Int)) then
   bif decide (0 ≤ IntKind.wrap IntKind.i64 (t11 - 1)) && decide (IntKind.wrap IntKind.i64 (t11 - 1) < (↑(List.length t10) : Int)) then
    bif decide (List.length h1 + List.length (List.set (List.replicate 1 0) 0 (IntKind.wrap IntKind.i64 (List.getD t10 (Int.toNat t11) 0 - List.getD t10 (Int.toNat (IntKind.wrap IntKind.i64 (t11 - 1))) 0))) ≤ 2147483648) then
     T27_1 t7 t9 t10 (IntKind.wrap IntKind.i64 (t11 + 1)) h0 (h1 ++ List.set (List.replicate 1 0) 0 (IntKind.wrap IntKind.i64 (List.getD t10 (Int.toNat t11) 0 - List.getD t10 (Int.toNat (IntKind.wrap IntKind.i64 (t11 - 1))) 0))) k
    else none
   else none
 else none
 else T27_0 t7 (IntKind.wrap IntKind.i64 (t9 + 1)) h0 h1 k : Option (denL [tSp, (.int .i64)])) = some y) : Ev fun k => T27_1 t7 t9 t10 t11 h0 h1 k = some y := U27_1 _ _ _ _ _ _ (Ev.eq (fun _ => Q27_1 _ _ _ _ _ _ _) h)
theorem N27 (t0 : Se) {y : denL [tSp, (.int .i64)]} (h : Ev fun k =>
 (Option.bind (F18 (t0, ())) fun (y : Int × Int × Int × Unit) => Option.bind (F90 (t0, Prod.fst (Prod.snd (Prod.snd y)), ())) fun (y : List (List Int) × Int × Unit) => bif Prod.fst (Prod.snd y) != 0 then some ((0, 0, ()), Prod.fst (Prod.snd y), ()) else T27_0 (Prod.fst y) 0 (0, 0, ()) ([]) k : Option (denL [tSp, (.int .i64)])) = some y) : F27 (t0, ()) = some y := ghost_eq (Ev.eq (fun _ => E27 _ _) h)
theorem R50_0 (t0 : (List Int)) (t6 : Int) (t7 : Int) (t9 : Int) (h0 : Sp) (h1 : (List Int)) {y : denL [(.slice (.int .i64))]} (h : Ev fun k =>
 (bif decide (t9 ≤ IntKind.wrap IntKind.i64 (t6 + Prod.fst (Prod.snd h0))) then
 Option.bind (F42 (IntKind.wrap IntKind.i64 (t9 - t6), h0, ())) fun (y : Bool × Unit) =>
   bif Prod.fst y then
    bif decide (t9 > t7) then bif decide (List.length h1 + List.length (List.set (List.replicate 1 0) 0 t9) ≤ 2147483648) then T50_0 t0 t6 t7 (IntKind.wrap IntKind.i64 (t9 + 1)) h0 (h1 ++ List.set (List.replicate 1 0) 0 t9) k else none
    else
     bif decide (0 ≤ t7) && decide (t7 < (↑(List.length t0) : Int)) then
      bif decide (0 ≤ IntKind.wrap IntKind.i64 (t7 - 1)) && decide (IntKind.wrap IntKind.i64 (t7 - 1) < (↑(List.length t0) : Int)) then
       bif decide (List.getD t0 (Int.toNat t7) 0 > List.getD t0 (Int.toNat (IntKind.wrap IntKind.i64 (t7 - 1))) 0) then bif decide (List.length h1 + List.length (List.set (List.replicate 1 0) 0 t9) ≤ 2147483648) then T50_0 t0 t6 t7 (IntKind.wrap IntKind.i64 (t9 + 1)) h0 (h1 ++ List.set (List.replicate 1 0) 0 t9) k else none
       else T50_0 t0 t6 t7 (IntKind.wrap IntKind.i64 (t9 + 1)) h0 h1 k
      else none
     else none
   else T50_0 t0 t6 t7 (IntKind.wrap IntKind.i64 (t9 + 1)) h0 h1 k
 else some (h1, ()) : Option (denL [(.slice (.int .i64))])) = some y) : Ev fun k => T50_0 t0 t6 t7 t9 h0 h1 k = some y := U50_0 _ _ _ _ _ _ (Ev.eq (fun _ => Q50_0 _ _ _ _ _ _ _) h)
theorem N50 (t0 : (List Int)) (t1 : Sp) {y : denL [(.slice (.int .i64))]} (h : Ev fun k =>
 (Option.bind (F40 (t0, ())) fun (y : List Int × Unit) =>
 bif (↑(List.length (Prod.fst y)) : Int) == 0 then some ([], ())
 else
   bif decide (0 ≤ IntKind.wrap IntKind.i64 ((↑(List.length (Prod.fst y)) : Int) - 1)) && decide (IntKind.wrap IntKind.i64 ((↑(List.length (Prod.fst y)) : Int) - 1) < (↑(List.length (Prod.fst y)) : Int)) then
    T50_0 t0 (List.getD (Prod.fst y) (Int.toNat (IntKind.wrap IntKind.i64 ((↑(List.length (Prod.fst y)) : Int) - 1))) 0) (IntKind.wrap IntKind.i64 ((↑(List.length t0) : Int) - 1)) (IntKind.wrap IntKind.i64 ((↑(List.length t0) : Int) - 1)) t1 ([]) k
   else none : Option (denL [(.slice (.int .i64))])) = some y) : F50 (t0, (t1, ())) = some y := ghost_eq (Ev.eq (fun _ => E50 _ _ _) h)
theorem R29_0 (t7 : (List (List Int))) (t9 : Int) (h0 : Se) (h1 : Sp) (h2 : (List Int)) {y : denL [tSp, (.int .i64)]} (h : Ev fun k =>
 (bif decide (t9 < (↑(List.length t7) : Int)) then
 bif decide (0 ≤ t9) && decide (t9 < (↑(List.length t7) : Int)) then Option.bind (F50 (List.getD t7 (Int.toNat t9) [], Prod.fst (Prod.snd (Prod.snd h0)), ())) fun (y : List Int × Unit) => bif decide (List.length h2 + List.length (Prod.fst y) ≤ 2147483648) then T29_0 t7 (IntKind.wrap IntKind.i64 (t9 + 1)) h0 h1 (h2 ++ Prod.fst y) k else none else none
 else Option.bind (F102 (h2, ())) fun (y : Sp × Int × Unit) => some (Prod.fst y, Prod.fst (Prod.snd y), ()) : Option (denL [tSp, (.int .i64)])) = some y) : Ev fun k => T29_0 t7 t9 h0 h1 h2 k = some y := U29_0 _ _ _ _ _ (Ev.eq (fun _ => Q29_0 _ _ _ _ _ _) h)
theorem N29 (t0 : Se) {y : denL [tSp, (.int .i64)]} (h : Ev fun k =>
 (Option.bind (F18 (t0, ())) fun (y : Int × Int × Int × Unit) => Option.bind (F90 (t0, Prod.fst (Prod.snd (Prod.snd y)), ())) fun (y : List (List Int) × Int × Unit) => bif Prod.fst (Prod.snd y) != 0 then some ((0, 0, ()), Prod.fst (Prod.snd y), ()) else T29_0 (Prod.fst y) 0 t0 (0, 0, ()) ([]) k : Option (denL [tSp, (.int .i64)])) = some y) : F29 (t0, ()) = some y := ghost_eq (Ev.eq (fun _ => E29 _ _) h)
end Go.Proofs.YtkbephbhajplhaaDoor
/- The reference's 'Turns', 'Gaps' and 'Next' are the program's. Conditions: as each lemma states. -/
namespace Go.Proofs.YtkbephbhajplhaaDoor
open Go Go.Gh Go.Proofs
theorem L41 (l : List Int) (h1 : 1 ≤ l.length) (hl : l.length < 1000000) : F41 ((l, ()) : List Int × Unit) = some (numsL (isBot l.length l) l.length, ()) := by
 refine N41 _ ?_
 have key : ∀ (c i : Nat), i + c = l.length → 1 ≤ i → Ev fun k => T41_0 l i (numsL (isBot l.length l) i) k = some (numsL (isBot l.length l) l.length, ()) := by
  intro c
  induction c with
  | zero =>
   intro i hi h1
   obtain rfl : i = l.length := by omega
   refine R41_0 _ _ _ ?_
   rw [wrap_succ (n := l.length) (by omega), dec_f (by omega)]
   exact Ev.all fun _ => rfl
  | succ c ih =>
   intro i hi h1
   have ih := ih (i + 1) (by omega) (by omega)
   have hs := numsL_succ (isBot l.length l) i
   have hln := numsL_len (isBot l.length l) i
   by_cases h2 : i + 1 < l.length
   ·have hm := isBot_mid (t := l) (show 0 < i by omega) h2
    refine R41_0 _ _ _ ?_
    rw [wrap_succ (n := i) (by omega), wrap_pred (n := i) (by omega) h1, dec_t (show ((i + 1 : Nat) : Int) < (l.length : Int) by omega), dec_t (show (0 : Int) ≤ (i : Int) by omega), dec_t (show (i : Int) < (l.length : Int) by omega), dec_t (show (0 : Int) ≤ ((i - 1 : Nat) : Int) by omega), dec_t (show ((i - 1 : Nat) : Int) < (l.length : Int) by omega), dec_t (show (0 : Int) ≤ ((i + 1 : Nat) : Int) by omega), Int.toNat_natCast, Int.toNat_natCast, Int.toNat_natCast, one_set, dec_t (show (numsL (isBot l.length l) i).length + [(i : Int)].length ≤ 2147483648 by simp; omega)]
    simp only [Bool.and_self, cond_true]
    cases ha : decide (l.getD i 0 < l.getD (i - 1) 0) with
    | false =>
     rw [ha, Bool.false_and] at hm
     rw [hm, if_neg (by simp)] at hs
     rw [hs] at ih
     exact ih
    | true =>
     rw [ha, Bool.true_and] at hm
     cases hb : decide (l.getD i 0 < l.getD (i + 1) 0) with
     | false =>
      rw [hb] at hm
      rw [hm, if_neg (by simp)] at hs
      rw [hs] at ih
      exact ih
     | true =>
      rw [hb] at hm
      rw [hm, if_pos rfl] at hs
      rw [hs] at ih
      exact ih
   ·refine R41_0 _ _ _ ?_
    rw [wrap_succ (n := i) (by omega), dec_f (show ¬ ((i + 1 : Nat) : Int) < (l.length : Int) by omega), show l.length = i + (c + 1) by omega, numsL_stop fun j hj => isBot_end (by omega)]
    exact Ev.all fun _ => rfl
 have h0 : numsL (isBot l.length l) 1 = [] := by
  rw [numsL_succ]
  have : isBot l.length l 0 = false := by simp [isBot]
  rw [this]; rfl
 have := key (l.length - 1) 1 (by omega) (Nat.le_refl _)
 rw [h0] at this
 exact this
theorem L44 (l : List Int) (x : Int) (hl : l.length < 1000000) : F44 ((l, x, ()) : List Int × Int × Unit) = some (decide (x ∈ l), ()) := by
 refine N44 _ _ ?_
 have key : ∀ (c i : Nat), i + c = l.length → Ev fun k => T44_0 l x i k = some (decide (x ∈ l.drop i), ()) := by
  intro c
  induction c with
  | zero =>
   intro i hi
   refine R44_0 _ _ _ ?_
   rw [dec_f (by omega), List.drop_eq_nil_of_le (by omega)]
   exact Ev.all fun _ => rfl
  | succ c ih =>
   intro i hi
   have hlt : i < l.length := by omega
   refine R44_0 _ _ _ ?_
   rw [dec_t (show (i : Int) < (l.length : Int) by omega), dec_t (show (0 : Int) ≤ (i : Int) by omega), Int.toNat_natCast, getD_lt hlt, wrap_succ (n := i) (by omega), List.drop_eq_getElem_cons hlt]
   simp only [Bool.and_self, cond_true]
   by_cases he : l[i] = x
   ·rw [show (l[i] == x) = true from beq_iff_eq.2 he, dec_t (by rw [he]; simp)]
    exact Ev.all fun _ => rfl
   ·have : decide (x ∈ l[i] :: l.drop (i + 1)) = decide (x ∈ l.drop (i + 1)) := by
     rw [Bool.eq_iff_iff, decide_eq_true_eq, decide_eq_true_eq, List.mem_cons]
     exact ⟨fun h => h.resolve_left fun h => he h.symm, .inr⟩
    rw [show (l[i] == x) = false from beq_eq_false_iff_ne.2 he, this]
    exact ih (i + 1) (by omega)
 have := key l.length 0 (by omega)
 rw [List.drop_zero] at this
 exact this
theorem L98 (yes all : Int) : F98 ((yes, all, ()) : Int × Int × Unit) = some (settledP yes all, ()) := by
 refine N98 _ _ ?_
 unfold settledP
 by_cases h : yes = all
 ·rw [if_pos h, show (yes == all) = true from by simp [h]]; exact Ev.all fun _ => rfl
 ·rw [if_neg h, show (yes == all) = false from by simp [h]]
  simp only [cond_false]
  by_cases h2 : yes = 0
  ·rw [if_pos h2, show (yes == 0) = true from by simp [h2]]; exact Ev.all fun _ => rfl
  ·rw [if_neg h2, show (yes == 0) = false from by simp [h2]]; exact Ev.all fun _ => rfl
theorem mem_nums {p : Nat → Bool} {k n : Nat} (h : ∀ j, k ≤ j → p j = false) : decide ((n : Int) ∈ numsL p k) = p n := by
 rw [Bool.eq_iff_iff, decide_eq_true_eq, numsL_mem]
 constructor
 ·rintro ⟨m, _, h2, h3⟩
  have : m = n := by omega
  exact this ▸ h2
 ·intro hp
  refine ⟨n, ?_, hp, rfl⟩
  by_cases hk : n < k
  ·exact hk
  ·rw [h n (by omega)] at hp; cases hp
theorem isBot_pad {n : Nat} {q : List Int} (hq : q.length = n) (i : Nat) : isBot n (pad q) i = isBot n q i := by
 by_cases h1 : 0 < i ∧ i + 1 < n
 ·have g : ∀ j, j < n → (pad q).getD j 0 = q.getD j 0 := fun j hj => by
   unfold pad
   rw [List.getD_eq_getElem?_getD, List.getD_eq_getElem?_getD, List.getElem?_append_left (by omega)]
  rw [isBot_mid h1.1 h1.2, isBot_mid h1.1 h1.2, g i (by omega), g (i - 1) (by omega), g (i + 1) (by omega)]
 ·unfold isBot
  have : (decide (0 < i) && decide (i + 1 < n)) = false := by
   rw [Bool.and_eq_false_iff, decide_eq_false_iff_not, decide_eq_false_iff_not]; omega
  rw [this]; rfl
theorem countP_eq {α : Type} {p q : α → Bool} {l : List α} (h : ∀ a ∈ l, p a = q a) : l.countP p = l.countP q := by
 rw [List.countP_eq_length_filter, List.countP_eq_length_filter, List.filter_congr h]
theorem L25 (s : Se) (n : Int) : F25 ((s, n, ()) : Se × Int × Unit) = some (turnsP s n) := by
 refine N25 _ _ ?_
 rw [L91 s n]
 simp only [Option.bind_some]
 rw [L90 s _ (fun h => (idx_zero h).1)]
 simp only [Option.bind_some]
 have hk := known_one s n
 by_cases he : errP s 0 [n] = 0
 ·rw [he] at hk
  obtain ⟨h0, ht, e⟩ := known_ok hk
  obtain ⟨hs, hn0, hn⟩ := idx_zero h0
  have h7 := hs.hi
  have h3 := hs.lo
  obtain ⟨m, rfl⟩ := Int.eq_ofNat_of_zero_le hn0
  have hlen := truthsR_len hs 0
  have hwf : ∀ t ∈ truthsR s 0, t.length = s.1.length ∧ (∀ x ∈ t, 0 ≤ x ∧ x ≤ 99) := fun t h => truthsR_wf hs h
  have e1 : (truthsP s 0).countP (isTop s.1.length · m) = (truthsR s 0).countP (isTop s.1.length · m) := by
   rw [truths_eq hs 0, List.countP_map]
   exact countP_eq fun t ht => isTop_pad (hwf t ht).1 m
  have e2 : (truthsP s 0).countP (isBot s.1.length · m) = (truthsR s 0).countP (isBot s.1.length · m) := by
   rw [truths_eq hs 0, List.countP_map]
   exact countP_eq fun t ht => isBot_pad (hwf t ht).1 m
  have e3 : (truthsP s 0).length = (truthsR s 0).length := by rw [truths_eq hs 0, List.length_map]
  have hv : turnsP s (m : Int) = (settledP ((truthsR s 0).countP (isTop s.1.length · m) : Nat) ((truthsR s 0).length : Nat), settledP ((truthsR s 0).countP (isBot s.1.length · m) : Nat) ((truthsR s 0).length : Nat), 0, ()) := by
   unfold turnsP
   rw [if_pos he, Int.toNat_natCast, e1, e2, e3]
  rw [e, hv]
  simp only [bne_self_eq_false, cond_false]
  generalize truthsR s 0 = A at hlen hwf
  have key : ∀ (c i : Nat), i + c = A.length → Ev fun k => T25_0 m A ((A.take i).countP (isTop s.1.length · m) : Nat) ((A.take i).countP (isBot s.1.length · m) : Nat) i k = some (settledP (A.countP (isTop s.1.length · m) : Nat) (A.length : Nat), settledP (A.countP (isBot s.1.length · m) : Nat) (A.length : Nat), 0, ()) := by
   intro c
   induction c with
   | zero =>
    intro i hi
    refine R25_0 _ _ _ _ _ ?_
    rw [dec_f (by omega), List.take_of_length_le (by omega)]
    simp only [cond_false]
    rw [L98]
    simp only [Option.bind_some]
    rw [L98]
    exact Ev.all fun _ => rfl
   | succ c ih =>
    intro i hi
    have hlt : i < A.length := by omega
    have ih := ih (i + 1) (by omega)
    have hq := (hwf _ (List.getElem_mem hlt)).1
    have c1 : (A.take i).countP (isTop s.1.length · m) ≤ 16384 := Nat.le_trans List.countP_le_length (by rw [List.length_take]; omega)
    have c2 : (A.take i).countP (isBot s.1.length · m) ≤ 16384 := Nat.le_trans List.countP_le_length (by rw [List.length_take]; omega)
    rw [List.take_add_one, List.getElem?_eq_getElem hlt, List.countP_append, List.countP_append] at ih
    simp only [Option.toList_some, List.countP_cons, List.countP_nil, Nat.zero_add] at ih
    refine R25_0 _ _ _ _ _ ?_
    have hg : A.getD i [] = A[i] := getD_lt hlt
    have k1 := numsL_len (isTop A[i].length A[i]) A[i].length
    have k2 := numsL_len (isBot A[i].length A[i]) A[i].length
    rw [dec_t (show (i : Int) < (A.length : Int) by omega), dec_t (show (0 : Int) ≤ (i : Int) by omega), Int.toNat_natCast, hg, wrap_succ (n := i) (by omega), L40 _ (by omega) (by omega)]
    simp only [Bool.and_self, cond_true, Option.bind_some]
    rw [L44 _ _ (by omega), mem_nums (fun j hj => isTop_end (by omega)), L41 _ (by omega) (by omega), hq]
    rw [hq] at k2
    simp only [Option.bind_some]
    rw [L44 _ _ (by omega), mem_nums (fun j hj => isBot_end (by omega)), wrap_succ (by omega), wrap_succ (by omega)]
    simp only [Option.bind_some]
    generalize (A.take i).countP (isTop s.1.length · m) = u at ih
    generalize (A.take i).countP (isBot s.1.length · m) = v at ih
    cases h1 : isTop s.1.length A[i] m with
    | true =>
     rw [h1] at ih
     cases h2 : isBot s.1.length A[i] m with
     | true => rw [h2] at ih; exact ih
     | false => rw [h2] at ih; exact ih
    | false =>
     rw [h1] at ih
     cases h2 : isBot s.1.length A[i] m with
     | true => rw [h2] at ih; exact ih
     | false => rw [h2] at ih; exact ih
  exact key A.length 0 (by omega)
 ·have hv : turnsP s n = (0, 0, errP s 0 [n], ()) := if_neg he
  rw [hv, ← hk, show ((knownP s (idxP s n)).2.1 != 0) = true from bne_iff_ne.2 (by rw [hk]; exact he)]
  exact Ev.all fun _ => rfl
theorem L102 (l : List Int) (hl : l.length < 1000000) (hb : ∀ v ∈ l, 0 ≤ v ∧ v ≤ 1000000) : F102 ((l, ()) : List Int × Unit) = some (spanP (l.foldl wide noneP)) := by
 refine N102 _ ?_
 cases l with
 | nil => exact Ev.all fun _ => rfl
 | cons v l =>
  have hh := hull_none (l := v :: l) (by simp) hb
  have hne : (v :: l).foldl wide noneP ≠ noneP := fun h => by
   have := hb _ hh.hi
   rw [h] at this
   exact absurd this.1 (by decide)
  have hv : spanP ((v :: l).foldl wide noneP) = ((v :: l).foldl wide noneP, 0, ()) := if_neg hne
  rw [hv, fold_first (hb v (by simp))]
  have key : ∀ (c i : Nat) (x : Sp), i + c = (v :: l).length → Ev fun k => T102_0 (v :: l) i (0, 0, ()) x k = some (((v :: l).drop i).foldl wide x, 0, ()) := by
   intro c
   induction c with
   | zero =>
    intro i x hi
    refine R102_0 _ _ _ _ ?_
    rw [dec_f (by omega), List.drop_eq_nil_of_le (by omega)]
    exact Ev.all fun _ => rfl
   | succ c ih =>
    intro i x hi
    have hlt : i < (v :: l).length := by omega
    refine R102_0 _ _ _ _ ?_
    rw [dec_t (show (i : Int) < ((v :: l).length : Int) by omega), dec_t (show (0 : Int) ≤ (i : Int) by omega), Int.toNat_natCast, getD_lt hlt, wrap_succ (n := i) (by omega), List.drop_eq_getElem_cons hlt, List.foldl_cons, L92]
    exact ih (i + 1) _ (by omega)
  have := key l.length 1 (v, v, ()) (by simp; omega)
  have e : (((v :: l).length : Int) == 0) = false := beq_eq_false_iff_ne.2 (by simp only [List.length_cons]; omega)
  rw [e, dec_t (show (0 : Int) < ((v :: l).length : Int) by simp only [List.length_cons]; omega)]
  simp only [Bool.and_self, cond_true, cond_false]
  exact this
def gapsL : List Nat → List Int
 | a :: b :: r => ((b : Int) - (a : Int)) :: gapsL (b :: r)
 | _ => []
theorem gapW_fold : ∀ (r : List Nat) (C : Sp) (a : Nat), gapW C (a : Int) r = (gapsL (a :: r)).foldl wide C
 | [], C, a => rfl
 | b :: r, C, a => by
  simp only [gapW, gapsL, List.foldl_cons]
  rw [if_neg (by omega), gapW_fold r _ b]
theorem gapW_all (C : Sp) (T : List Nat) : gapW C (-1) T = (gapsL T).foldl wide C := by
 cases T with
 | nil => rfl
 | cons a T =>
  simp only [gapW]
  rw [if_pos (by omega), gapW_fold]
theorem gapsL_len : ∀ (T : List Nat), (gapsL T).length ≤ T.length
 | [] => by simp [gapsL]
 | [_] => by simp [gapsL]
 | a :: b :: r => by
  have := gapsL_len (b :: r)
  simp only [gapsL, List.length_cons] at this ⊢
  omega
theorem gapsL_bd : ∀ {T : List Nat}, T.Pairwise (· < ·) → (∀ v ∈ T, v < 1000000) → ∀ v ∈ gapsL T, 0 ≤ v ∧ v ≤ 1000000
 | [], _, _, v, h => by simp [gapsL] at h
 | [_], _, _, v, h => by simp [gapsL] at h
 | a :: b :: r, hp, hb, v, h => by
  rw [List.pairwise_cons] at hp
  simp only [gapsL, List.mem_cons] at h
  rcases h with rfl | h
  ·have h1 := hp.1 b (by simp)
   have h2 := hb b (by simp)
   omega
  ·exact gapsL_bd hp.2 (fun v hv => hb v (by simp [hv])) v h
theorem tops_pair (n : Nat) (l : List Int) : (topsFrom n l 0).Pairwise (· < ·) := by
 unfold topsFrom
 exact List.Pairwise.filter _ (List.pairwise_lt_range' ..)
theorem tops_len (n : Nat) (l : List Int) : (topsFrom n l 0).length ≤ n := by
 unfold topsFrom
 refine Nat.le_trans (List.length_filter_le _ _) ?_
 simp
theorem foldl_flat {α : Type} (f : α → List Int) : ∀ (l : List α) (C : Sp), (l.flatMap f).foldl wide C = l.foldl (fun C t => (f t).foldl wide C) C
 | [], _ => rfl
 | a :: l, C => by rw [List.flatMap_cons, List.foldl_append, foldl_flat f l, List.foldl_cons]
theorem known_nil (s : Se) : (knownP s (chkP s).2.2.1).2.1 = errP s 0 [] := by
 unfold knownP errP
 by_cases hc : (chkP s).2.2.1 = 0
 ·rw [if_pos hc, if_pos hc]
  simp only [List.any_nil, Bool.false_eq_true, if_false, if_true]
  by_cases ht : truthsR s 0 = []
  ·rw [if_pos ht, if_pos ((truths_none (chk_zero hc)).2 ht)]
  ·rw [if_neg ht, if_neg (fun h => ht ((truths_none (chk_zero hc)).1 h))]
 ·rw [if_neg hc, if_neg hc]
theorem L27 (s : Se) : F27 ((s, ()) : Se × Unit) = some (gapsP s) := by
 refine N27 _ ?_
 rw [L18 s]
 simp only [Option.bind_some]
 rw [L90 s _ chk_zero]
 simp only [Option.bind_some]
 have hk := known_nil s
 by_cases he : errP s 0 [] = 0
 ·rw [he] at hk
  obtain ⟨h0, ht, e⟩ := known_ok hk
  have hs := chk_zero h0
  have h7 := hs.hi
  have h3 := hs.lo
  have hlen := truthsR_len hs 0
  have hwf : ∀ t ∈ truthsR s 0, t.length = s.1.length ∧ (∀ x ∈ t, 0 ≤ x ∧ x ≤ 99) := fun t h => truthsR_wf hs h
  have hv : gapsP s = spanP (((truthsR s 0).flatMap fun t => gapsL (topsFrom s.1.length t 0)).foldl wide noneP) := by
   unfold gapsP
   rw [if_pos he, truths_eq hs 0, List.foldl_map, foldl_flat]
   congr 1
   have : ∀ (l : List (List Int)) (C : Sp), (∀ t ∈ l, t.length = s.1.length) → l.foldl (fun x y => gapW x (-1) (topsFrom s.1.length (pad y) 0)) C = l.foldl (fun C t => (gapsL (topsFrom s.1.length t 0)).foldl wide C) C := by
    intro l
    induction l with
    | nil => intro C _; rfl
    | cons t l ih =>
     intro C h
     rw [List.foldl_cons, List.foldl_cons, gapW_all, tops_pad (h t (by simp)), ih _ fun u hu => h u (by simp [hu])]
   exact this _ _ fun t ht => (hwf t ht).1
  rw [e, hv]
  simp only [bne_self_eq_false, cond_false]
  generalize truthsR s 0 = A at hlen hwf
  have gl : ∀ t : List Int, (gapsL (topsFrom s.1.length t 0)).length ≤ 7 := fun t => Nat.le_trans (gapsL_len _) (Nat.le_trans (tops_len _ _) h7)
  have gb : ∀ v ∈ A.flatMap fun t => gapsL (topsFrom s.1.length t 0), 0 ≤ v ∧ v ≤ 1000000 := fun v hv => by
   rw [List.mem_flatMap] at hv
   obtain ⟨t, _, hv⟩ := hv
   exact gapsL_bd (tops_pair _ _) (fun w hw => by have := tops_lt hw; omega) v hv
  have outer : ∀ (c i : Nat), i + c = A.length → Ev fun k => T27_0 A i (0, 0, ()) ((A.take i).flatMap fun t => gapsL (topsFrom s.1.length t 0)) k = some (spanP ((A.flatMap fun t => gapsL (topsFrom s.1.length t 0)).foldl wide noneP)) := by
   intro c
   induction c with
   | zero =>
    intro i hi
    refine R27_0 _ _ _ _ ?_
    have hlen' : (A.flatMap fun t => gapsL (topsFrom s.1.length t 0)).length < 1000000 := by
     have := Few.flat_len (fun t => gapsL (topsFrom s.1.length t 0)) 7 A fun t _ => gl t
     omega
    rw [dec_f (by omega), List.take_of_length_le (by omega), L102 _ hlen' gb]
    exact Ev.all fun _ => rfl
   | succ c ih =>
    intro i hi
    have hlt : i < A.length := by omega
    have ih := ih (i + 1) (by omega)
    have hq := (hwf _ (List.getElem_mem hlt)).1
    have hP := Few.flat_len (fun t => gapsL (topsFrom s.1.length t 0)) 7 (A.take i) fun t _ => gl t
    have hP2 : (A.take i).length ≤ 16384 := by rw [List.length_take]; omega
    have g2 := gl A[i]
    rw [List.take_add_one, List.getElem?_eq_getElem hlt, List.flatMap_append] at ih
    simp only [Option.toList_some, List.flatMap_singleton] at ih
    have hg : A.getD i [] = A[i] := getD_lt hlt
    refine R27_0 _ _ _ _ ?_
    rw [dec_t (show (i : Int) < (A.length : Int) by omega), dec_t (show (0 : Int) ≤ (i : Int) by omega), Int.toNat_natCast, hg, L40 _ (by omega) (by omega), hq, nums_tops]
    simp only [Bool.and_self, cond_true, Option.bind_some]
    have tlt : ∀ v ∈ topsFrom s.1.length A[i] 0, v < 1000000 := fun v hv => by have := tops_lt hv; omega
    have tlen := tops_len s.1.length A[i]
    generalize ((A.take i).flatMap fun t => gapsL (topsFrom s.1.length t 0)) = P at ih hP
    generalize topsFrom s.1.length A[i] 0 = T at ih tlt tlen g2
    have inner : ∀ (d j : Nat) (Q : List Int), j + d = T.length → 1 ≤ j → Q ++ gapsL (T.drop (j - 1)) = P ++ gapsL T → Ev fun k => T27_1 A i (T.map fun v : Nat => (v : Int)) j (0, 0, ()) Q k = some (spanP ((A.flatMap fun t => gapsL (topsFrom s.1.length t 0)).foldl wide noneP)) := by
     intro d
     induction d with
     | zero =>
      intro j Q hj h1 hQ
      refine R27_1 _ _ _ _ _ _ ?_
      have : gapsL (T.drop (j - 1)) = [] := by
       have h2 : (T.drop (j - 1)).length ≤ 1 := by rw [List.length_drop]; omega
       match h : T.drop (j - 1), h2 with
       | [], _ => rfl
       | [_], _ => rfl
      rw [this, List.append_nil] at hQ
      rw [List.length_map, dec_f (by omega), wrap_succ (n := i) (by omega), hQ]
      exact ih
     | succ d ihd =>
      intro j Q hj h1 hQ
      have hjl : j < T.length := by omega
      refine R27_1 _ _ _ _ _ _ ?_
      have b1 := tlt _ (List.getElem_mem hjl)
      have b2 := tlt _ (List.getElem_mem (show j - 1 < T.length by omega))
      have hdr : T.drop (j - 1) = T[j - 1] :: T[j] :: T.drop (j + 1) := by
       rw [List.drop_eq_getElem_cons (show j - 1 < T.length by omega), show j - 1 + 1 = j by omega, List.drop_eq_getElem_cons hjl]
      have hQl : Q.length ≤ 1000000 := by
       have := congrArg List.length hQ
       simp only [List.length_append] at this
       omega
      rw [List.length_map, dec_t (show (j : Int) < (T.length : Int) by omega), dec_t (show (0 : Int) ≤ (j : Int) by omega), wrap_pred (n := j) (by omega) h1, dec_t (show (0 : Int) ≤ ((j - 1 : Nat) : Int) by omega), dec_t (show ((j - 1 : Nat) : Int) < (T.length : Int) by omega), wrap_succ (n := j) (by omega), Int.toNat_natCast, Int.toNat_natCast,
       getD_lt (l := T.map fun v : Nat => (v : Int)) (i := j) (by rw [List.length_map]; exact hjl), getD_lt (l := T.map fun v : Nat => (v : Int)) (i := j - 1) (by rw [List.length_map]; omega), List.getElem_map, List.getElem_map, wrap_id (by omega) (by omega), one_set, dec_t (by simp only [List.length_cons, List.length_nil]; omega)]
      simp only [Bool.and_self, cond_true]
      refine ihd (j + 1) _ (by omega) (by omega) ?_
      rw [← hQ, hdr, Nat.add_sub_cancel, List.drop_eq_getElem_cons hjl, List.append_assoc]
      rfl
    cases T with
    | nil =>
     refine R27_1 _ _ _ _ _ _ ?_
     rw [show ((List.map (fun v : Nat => (v : Int)) []).length : Int) = 0 from rfl, dec_f (by omega), wrap_succ (n := i) (by omega)]
     rw [show gapsL [] = [] from rfl, List.append_nil] at ih
     exact ih
    | cons a T => exact inner T.length 1 P (by simp; omega) (Nat.le_refl _) rfl
  exact outer A.length 0 (by omega)
 ·have hv : gapsP s = (sp0, errP s 0 [], ()) := if_neg he
  rw [hv, ← hk, show ((knownP s (chkP s).2.2.1).2.1 != 0) = true from bne_iff_ne.2 (by rw [hk]; exact he)]
  exact Ev.all fun _ => rfl
end Go.Proofs.YtkbephbhajplhaaDoor
/- The reference's 'Next' and 'Wreck' are the program's. Conditions: as each lemma states. -/
namespace Go.Proofs.YtkbephbhajplhaaDoor
open Go Go.Gh Go.Proofs
theorem wide_spec (x : Sp) (n : Int) : ((wide x n).1 = n ∧ n < x.1 ∨ (wide x n).1 = x.1 ∧ ¬ n < x.1) ∧ ((wide x n).2.1 = n ∧ n > x.2.1 ∨ (wide x n).2.1 = x.2.1 ∧ ¬ n > x.2.1) := by
 unfold wide
 simp only
 constructor
 ·by_cases h : n < x.1
  ·rw [if_pos h]; exact .inl ⟨rfl, h⟩
  ·rw [if_neg h]; exact .inr ⟨rfl, h⟩
 ·by_cases h : n > x.2.1
  ·rw [if_pos h]; exact .inl ⟨rfl, h⟩
  ·rw [if_neg h]; exact .inr ⟨rfl, h⟩
theorem sp_ext {x y : Sp} (h1 : x.1 = y.1) (h2 : x.2.1 = y.2.1) : x = y := Prod.ext h1 (Prod.ext h2 rfl)
theorem fold_upto (C : Sp) : ∀ (d : Nat) (lo hi : Int), lo + d = hi → (Few.upto lo (hi + 1)).foldl wide C = wide (wide C lo) hi
 | 0, lo, hi, h => by
  have : Few.upto lo (hi + 1) = [lo] := by
   rw [Few.upto_cons (by omega), Few.upto_nil (by omega)]
  rw [this, List.foldl_cons, List.foldl_nil]
  have h1 := wide_spec C lo
  have h2 := wide_spec (wide C lo) hi
  exact sp_ext (by omega) (by omega)
 | d + 1, lo, hi, h => by
  have hu : Few.upto lo (hi + 1) = Few.upto lo (hi - 1 + 1) ++ [hi] := by
   unfold Few.upto
   rw [show (hi + 1 - lo).toNat = (hi - 1 + 1 - lo).toNat + 1 by omega, List.range_succ, List.map_append]
   simp only [List.map_cons, List.map_nil]
   congr 2
   omega
  rw [hu, List.foldl_append, fold_upto C d lo (hi - 1) (by omega), List.foldl_cons, List.foldl_nil]
  have h1 := wide_spec C lo
  have h2 := wide_spec (wide C lo) hi
  have h3 := wide_spec (wide C lo) (hi - 1)
  have h4 := wide_spec (wide (wide C lo) (hi - 1)) hi
  exact sp_ext (by omega) (by omega)
theorem filter_upto (lo b : Int) : ∀ (d : Nat) (a : Int), a + d = lo → (Few.upto a b).filter (fun v => decide (lo ≤ v)) = Few.upto lo b
 | 0, a, h => by
  obtain rfl : a = lo := by omega
  rw [List.filter_eq_self]
  intro v hv
  rw [Few.mem_upto] at hv
  rw [decide_eq_true_eq]; exact hv.1
 | d + 1, a, h => by
  by_cases hab : a < b
  ·rw [Few.upto_cons hab, List.filter_cons, dec_f (show ¬ lo ≤ a by omega), if_neg (by simp)]
   exact filter_upto lo b d (a + 1) (by omega)
  ·rw [Few.upto_nil (by omega), Few.upto_nil (by omega)]; rfl
def okNext (s : Se) (q : List Int) (top y : Int) : Bool := inGap s.2.2.1 (y - top) && (decide (y > ((q.length - 1 : Nat) : Int)) || decide (q.getD (q.length - 1) 0 > q.getD (q.length - 2) 0))
def nextsL (s : Se) (q : List Int) : List Int := match (topsFrom q.length q 0).getLast? with
 | none => []
 | some top => (Few.upto ((q.length - 1 : Nat) : Int) ((top : Int) + s.2.2.1.2.1 + 1)).filter (okNext s q top)
theorem L50 (s : Se) (hs : VS s) (q : List Int) (hq : q.length = s.1.length) : F50 ((q, s.2.2.1, ()) : List Int × Sp × Unit) = some (nextsL s q, ()) := by
 have h7 := hs.hi
 have h3 := hs.lo
 have hg := hs.gap
 refine N50 _ _ ?_
 rw [L40 _ (by omega) (by omega), nums_tops]
 simp only [Option.bind_some]
 unfold nextsL
 have tlt : ∀ v ∈ topsFrom q.length q 0, v < q.length := fun v hv => tops_lt hv
 have tlen := tops_len q.length q
 generalize topsFrom q.length q 0 = T at tlt tlen
 cases hT : T.getLast? with
 | none =>
  rw [List.getLast?_eq_none_iff] at hT
  subst hT
  exact Ev.all fun _ => rfl
 | some top =>
  have htop := tlt top (List.mem_of_getLast? hT)
  have hpos : 0 < T.length := by
   cases T with
   | nil => cases hT
   | cons a T => simp
  have hl : (T.map fun v : Nat => (v : Int)).getD (T.length - 1) 0 = (top : Int) := by
   rw [List.getLast?_eq_getElem?] at hT
   rw [List.getD_eq_getElem?_getD, List.getElem?_map, hT]; rfl
  rw [List.length_map, show ((T.length : Int) == 0) = false from beq_eq_false_iff_ne.2 (by omega), wrap_pred (n := T.length) (by omega) (by omega), dec_t (show (0 : Int) ≤ ((T.length - 1 : Nat) : Int) by omega), dec_t (show ((T.length - 1 : Nat) : Int) < (T.length : Int) by omega), Int.toNat_natCast, hl, wrap_pred (n := q.length) (by omega) (by omega)]
  simp only [Bool.and_self, cond_true, cond_false]
  have key : ∀ (c : Nat) (y : Int) (Q : List Int), (q.length - 1 : Nat) ≤ y → (y + c = (top : Int) + s.2.2.1.2.1 + 1 ∨ c = 0 ∧ y ≥ (top : Int) + s.2.2.1.2.1 + 1) → y ≤ 20 → Q.length ≤ y.toNat → Ev fun k => T50_0 q top ((q.length - 1 : Nat) : Int) y s.2.2.1 Q k = some (Q ++ (Few.upto y ((top : Int) + s.2.2.1.2.1 + 1)).filter (okNext s q top), ()) := by
   intro c
   induction c with
   | zero =>
    intro y Q hy hc h20 hQ
    refine R50_0 _ _ _ _ _ _ ?_
    rw [wrap_id (x := (top : Int) + s.2.2.1.2.1) (by omega) (by omega), dec_f (by omega), Few.upto_nil (by omega)]
    simp only [List.filter_nil, List.append_nil]
    exact Ev.all fun _ => rfl
   | succ c ih =>
    intro y Q hy hc h20 hQ
    have hy0 : 0 ≤ y := by omega
    refine R50_0 _ _ _ _ _ _ ?_
    rw [wrap_id (x := (top : Int) + s.2.2.1.2.1) (by omega) (by omega), dec_t (show y ≤ (top : Int) + s.2.2.1.2.1 by omega), wrap_id (x := y - (top : Int)) (by omega) (by omega), L42, Few.upto_cons (show y < (top : Int) + s.2.2.1.2.1 + 1 by omega), List.filter_cons, wrap_id (x := y + 1) (by omega) (by omega), one_set, dec_t (show Q.length + [y].length ≤ 2147483648 by simp only [List.length_cons, List.length_nil]; omega),
     dec_t (show (0 : Int) ≤ ((q.length - 1 : Nat) : Int) by omega), dec_t (show ((q.length - 1 : Nat) : Int) < (q.length : Int) by omega), wrap_pred (n := q.length - 1) (by omega) (by omega), dec_t (show (0 : Int) ≤ ((q.length - 1 - 1 : Nat) : Int) by omega), dec_t (show ((q.length - 1 - 1 : Nat) : Int) < (q.length : Int) by omega), Int.toNat_natCast, Int.toNat_natCast, show q.length - 1 - 1 = q.length - 2 by omega]
    simp only [Bool.and_self, cond_true, Option.bind_some]
    have i1 := ih (y + 1) (Q ++ [y]) (by omega) (by omega) (by omega) (by simp only [List.length_append, List.length_cons, List.length_nil]; omega)
    have i2 := ih (y + 1) Q (by omega) (by omega) (by omega) (by omega)
    rw [List.append_assoc] at i1
    rw [show okNext s q top y = (inGap s.2.2.1 (y - (top : Int)) && (decide (y > ((q.length - 1 : Nat) : Int)) || decide (q.getD (q.length - 1) 0 > q.getD (q.length - 2) 0))) from rfl]
    cases inGap s.2.2.1 (y - (top : Int)) with
    | false => exact i2
    | true =>
     cases decide (y > ((q.length - 1 : Nat) : Int)) with
     | true => exact i1
     | false =>
      cases decide (q.getD (q.length - 1) 0 > q.getD (q.length - 2) 0) with
      | true => exact i1
      | false => exact i2
  by_cases hy : ((q.length - 1 : Nat) : Int) ≤ (top : Int) + s.2.2.1.2.1 + 1
  ·exact key ((top : Int) + s.2.2.1.2.1 + 1 - ((q.length - 1 : Nat) : Int)).toNat ((q.length - 1 : Nat) : Int) [] (Int.le_refl _) (by omega) (by omega) (by simp)
  ·exact key 0 ((q.length - 1 : Nat) : Int) [] (Int.le_refl _) (by omega) (by omega) (by simp)
theorem nexts_fold {s : Se} (hs : VS s) {q : List Int} (hq : q.length = s.1.length) (C : Sp) : nextW s C (pad q) = (nextsL s q).foldl wide C := by
 have h7 := hs.hi
 have h3 := hs.lo
 have hg := hs.gap
 unfold nextW nextsL lastT
 rw [tops_pad hq, hq]
 have tlt : ∀ v ∈ topsFrom s.1.length q 0, v < s.1.length := fun v hv => tops_lt hv
 cases hT : (topsFrom s.1.length q 0).getLast? with
 | none =>
  simp only
  rw [if_pos (by omega)]; rfl
 | some top =>
  have htop := tlt top (List.mem_of_getLast? hT)
  simp only
  rw [if_neg (by omega)]
  have g : ∀ j, j < s.1.length → (pad q).getD j 0 = q.getD j 0 := fun j hj => by
   unfold pad
   rw [List.getD_eq_getElem?_getD, List.getD_eq_getElem?_getD, List.getElem?_append_left (by omega)]
  rw [g (s.1.length - 1) (by omega), g (s.1.length - 2) (by omega)]
  have hlo : ∃ lo : Int, maxI ((top : Int) + s.2.2.1.1) (if q.getD (s.1.length - 1) 0 > q.getD (s.1.length - 2) 0 then ((s.1.length - 1 : Nat) : Int) else (s.1.length : Int)) = lo ∧ ((s.1.length - 1 : Nat) : Int) ≤ lo ∧ ∀ y, ((s.1.length - 1 : Nat) : Int) ≤ y → y < (top : Int) + s.2.2.1.2.1 + 1 → okNext s q top y = decide (lo ≤ y) := by
   refine ⟨_, rfl, ?_, fun y h1 h2 => ?_⟩
   ·unfold maxI
    split <;> split <;> omega
   ·unfold okNext inGap maxI
    rw [hq, Bool.eq_iff_iff]
    by_cases hr : q.getD (s.1.length - 1) 0 > q.getD (s.1.length - 2) 0
    ·rw [dec_t hr, if_pos hr]
     simp only [Bool.and_eq_true, decide_eq_true_eq, Bool.or_true, and_true]
     split <;> omega
    ·rw [dec_f hr, if_neg hr]
     simp only [Bool.and_eq_true, decide_eq_true_eq, Bool.or_false]
     split <;> omega
  obtain ⟨lo, e1, e2, e3⟩ := hlo
  rw [e1]
  have hf : (Few.upto ((s.1.length - 1 : Nat) : Int) ((top : Int) + s.2.2.1.2.1 + 1)).filter (okNext s q top) = Few.upto lo ((top : Int) + s.2.2.1.2.1 + 1) := by
   rw [← filter_upto lo _ (lo - ((s.1.length - 1 : Nat) : Int)).toNat ((s.1.length - 1 : Nat) : Int) (by omega)]
   refine List.filter_congr fun y hy => ?_
   rw [Few.mem_upto] at hy
   exact e3 y hy.1 hy.2
  rw [hf]
  by_cases hle : lo ≤ (top : Int) + s.2.2.1.2.1
  ·rw [if_pos hle, fold_upto C ((top : Int) + s.2.2.1.2.1 - lo).toNat lo _ (by omega)]
  ·rw [if_neg hle, Few.upto_nil (by omega)]; rfl
theorem nexts_bd {s : Se} (hs : VS s) {q : List Int} (hq : q.length = s.1.length) : (nextsL s q).length ≤ 20 ∧ ∀ v ∈ nextsL s q, 0 ≤ v ∧ v ≤ 1000000 := by
 have h7 := hs.hi
 have h3 := hs.lo
 have hg := hs.gap
 unfold nextsL
 have tlt : ∀ v ∈ topsFrom q.length q 0, v < q.length := fun v hv => tops_lt hv
 cases hT : (topsFrom q.length q 0).getLast? with
 | none => simp
 | some top =>
  have htop := tlt top (List.mem_of_getLast? hT)
  simp only
  refine ⟨Nat.le_trans (List.length_filter_le _ _) (by rw [Few.upto_len]; omega), fun v hv => ?_⟩
  have := (List.mem_filter.1 hv).1
  rw [Few.mem_upto] at this
  omega
theorem L29 (s : Se) : F29 ((s, ()) : Se × Unit) = some (nextP s) := by
 refine N29 _ ?_
 rw [L18 s]
 simp only [Option.bind_some]
 rw [L90 s _ chk_zero]
 simp only [Option.bind_some]
 have hk := known_nil s
 by_cases he : errP s 0 [] = 0
 ·rw [he] at hk
  obtain ⟨h0, ht, e⟩ := known_ok hk
  have hs := chk_zero h0
  have hlen := truthsR_len hs 0
  have hwf : ∀ t ∈ truthsR s 0, t.length = s.1.length := fun t h => (truthsR_wf hs h).1
  have hv : nextP s = spanP (((truthsR s 0).flatMap (nextsL s)).foldl wide noneP) := by
   unfold nextP
   rw [if_pos he, truths_eq hs 0, List.foldl_map, foldl_flat]
   congr 1
   have : ∀ (l : List (List Int)) (C : Sp), (∀ t ∈ l, t.length = s.1.length) → l.foldl (fun x y => nextW s x (pad y)) C = l.foldl (fun C t => (nextsL s t).foldl wide C) C := by
    intro l
    induction l with
    | nil => intro C _; rfl
    | cons t l ih =>
     intro C h
     rw [List.foldl_cons, List.foldl_cons, nexts_fold hs (h t (by simp)), ih _ fun u hu => h u (by simp [hu])]
   exact this _ _ hwf
  rw [e, hv]
  simp only [bne_self_eq_false, cond_false]
  generalize truthsR s 0 = A at hlen hwf
  have gb : ∀ v ∈ A.flatMap (nextsL s), 0 ≤ v ∧ v ≤ 1000000 := fun v hv => by
   rw [List.mem_flatMap] at hv
   obtain ⟨t, ht, hv⟩ := hv
   exact (nexts_bd hs (hwf t ht)).2 v hv
  have outer : ∀ (c i : Nat), i + c = A.length → Ev fun k => T29_0 A i s (0, 0, ()) ((A.take i).flatMap (nextsL s)) k = some (spanP ((A.flatMap (nextsL s)).foldl wide noneP)) := by
   intro c
   induction c with
   | zero =>
    intro i hi
    refine R29_0 _ _ _ _ _ ?_
    have hlen' : (A.flatMap (nextsL s)).length < 1000000 := by
     have := Few.flat_len (nextsL s) 20 A fun t ht => (nexts_bd hs (hwf t ht)).1
     omega
    rw [dec_f (by omega), List.take_of_length_le (by omega), L102 _ hlen' gb]
    exact Ev.all fun _ => rfl
   | succ c ih =>
    intro i hi
    have hlt : i < A.length := by omega
    have ih := ih (i + 1) (by omega)
    have hq := hwf _ (List.getElem_mem hlt)
    have hP := Few.flat_len (nextsL s) 20 (A.take i) fun t ht => (nexts_bd hs (hwf t (List.mem_of_mem_take ht))).1
    have hP2 : (A.take i).length ≤ 16384 := by rw [List.length_take]; omega
    have g2 := (nexts_bd hs hq).1
    rw [List.take_add_one, List.getElem?_eq_getElem hlt, List.flatMap_append] at ih
    simp only [Option.toList_some, List.flatMap_singleton] at ih
    have hg : A.getD i [] = A[i] := getD_lt hlt
    refine R29_0 _ _ _ _ _ ?_
    rw [dec_t (show (i : Int) < (A.length : Int) by omega), dec_t (show (0 : Int) ≤ (i : Int) by omega), Int.toNat_natCast, hg, L50 s hs _ hq, wrap_succ (n := i) (by omega)]
    simp only [Bool.and_self, cond_true, Option.bind_some]
    rw [dec_t (by omega)]
    exact ih
  exact outer A.length 0 (by omega)
 ·have hv : nextP s = (sp0, errP s 0 [], ()) := if_neg he
  rw [hv, ← hk, show ((knownP s (chkP s).2.2.1).2.1 != 0) = true from bne_iff_ne.2 (by rw [hk]; exact he)]
  exact Ev.all fun _ => rfl
end Go.Proofs.YtkbephbhajplhaaDoor
