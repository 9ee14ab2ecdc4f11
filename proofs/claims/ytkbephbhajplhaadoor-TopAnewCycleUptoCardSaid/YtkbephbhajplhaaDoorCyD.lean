/- What the ghost comes to: turns, gaps, next, wreck. Conditions: none (equations, each by computation). -/
import Derived.Test.YtkbephbhajplhaaDoorCyA
namespace Go.Proofs.YtkbephbhajplhaaDoor
open Go Go.Gh Go.Proofs
def O24s122 : List (Nat × BSh) := [(240002, .box (.dat tSe) false), (240003, .box (.dat (.int .i64)) false), (240004, .box (.dat (.int .i64)) false), (240005, .box (.dat (.int .i64)) false), (240007, .box (.dat (.hnd 0 (.struct [tSe, (.int .i64)]))) false), (240008, .box (.dat (.int .i64)) false), (249007, .loopE 24 66 [(2, (.ptr 240002 [])), (3, (.ptr 240003 [])), (4, (.ptr 240004 [])), (5, (.ptr 240005 [])), (7, (.ptr 240007 [])), (8, (.ptr 240008 []))] [22] 0 [0]), (10950001, .box (.dat (.hnd 0 (.struct [tSe, (.int .i64)]))) false), (11210002, .box (.yld 249007) false), (11210003, .box (.fn 96 [(.dat (.hnd 0 (.struct [tSe, (.int .i64)])))] []) false), (11210004, .box (.dat (.arr 7 (.int .i64))) false), (11210005, .box (.dat (.arr 7 (.int .i64))) false), (11210006, .box (.fn 122 [] [(.ptr 10950001 []), (.ptr 11210004 []), (.ptr 11210006 []), (.ptr 11210005 []), (.ptr 11210003 []), (.ptr 11210002 [])]) false)]
noncomputable def Y24s122 : List (Code × Code) := [noCodes, noCodes, noCodes, noCodes, noCodes, noCodes, ((cAt Tryd.f24 [1, 1, 1, 1, 0, 1, 0, 0]), (cAt Tryd.f24 [1, 1, 1, 1, 0, 1, 0, 1])), noCodes, noCodes, noCodes, noCodes, noCodes, noCodes]
def S24s122 : List Gh.Spec := [{ key := (0, 0, 0, 0), frs := [{ fn := 122, n := 119, regs := [(0, (.dat (.int .i64))), (1, (.ptr 10950001 [])), (2, (.ptr 11210004 [])), (3, (.ptr 11210006 [])), (4, (.ptr 11210005 [])), (5, (.ptr 11210003 [])), (6, (.ptr 11210002 []))], round := none, defers := [] }], heap := [(240002, .box (.dat tSe) false), (240003, .box (.dat (.int .i64)) false), (240004, .box (.dat (.int .i64)) false), (240005, .box (.dat (.int .i64)) false), (240007, .box (.dat (.hnd 0 (.struct [tSe, (.int .i64)]))) false), (240008, .box (.dat (.int .i64)) false), (249007, .loop 24 66 [(2, (.ptr 240002 [])), (3, (.ptr 240003 [])), (4, (.ptr 240004 [])), (5, (.ptr 240005 [])), (7, (.ptr 240007 [])), (8, (.ptr 240008 []))] [22] 0 false), (10950001, .box (.dat (.hnd 0 (.struct [tSe, (.int .i64)]))) false), (11210002, .box (.yld 249007) false), (11210003, .box (.fn 96 [(.dat (.hnd 0 (.struct [tSe, (.int .i64)])))] []) false), (11210004, .box (.dat (.arr 7 (.int .i64))) false), (11210005, .box (.dat (.arr 7 (.int .i64))) false), (11210006, .box (.fn 122 [] [(.ptr 10950001 []), (.ptr 11210004 []), (.ptr 11210006 []), (.ptr 11210005 []), (.ptr 11210003 []), (.ptr 11210002 [])]) false)], base := 20 }, { key := (123194000000000000004804566, 122, 3, 1), frs := [{ fn := 122, n := 119, regs := [(0, (.dat (.int .i64))), (1, (.ptr 10950001 [])), (2, (.ptr 11210004 [])), (3, (.ptr 11210006 [])), (8, (.ptr 201220008 [])), (9, (.dat (.int .i64)))], round := none, defers := [] }], heap := [(240002, .box (.dat tSe) false), (240003, .box (.dat (.int .i64)) false), (240004, .box (.dat (.int .i64)) false), (240005, .box (.dat (.int .i64)) false), (240007, .box (.dat (.hnd 0 (.struct [tSe, (.int .i64)]))) false), (240008, .box (.dat (.int .i64)) false), (249007, .loop 24 66 [(2, (.ptr 240002 [])), (3, (.ptr 240003 [])), (4, (.ptr 240004 [])), (5, (.ptr 240005 [])), (7, (.ptr 240007 [])), (8, (.ptr 240008 []))] [22] 0 false), (10950001, .box (.dat (.hnd 0 (.struct [tSe, (.int .i64)]))) false), (11210002, .box (.yld 249007) false), (11210003, .box (.fn 96 [(.dat (.hnd 0 (.struct [tSe, (.int .i64)])))] []) false), (11210004, .box (.dat (.arr 7 (.int .i64))) false), (11210005, .box (.dat (.arr 7 (.int .i64))) false), (11210006, .box (.fn 122 [] [(.ptr 10950001 []), (.ptr 11210004 []), (.ptr 11210006 []), (.ptr 11210005 []), (.ptr 11210003 []), (.ptr 11210002 [])]) false), (201220008, .box (.dat .bool) false)], base := 20 }, { key := (123194000000000000004804589, 123, 2, 1), frs := [{ fn := 123, n := 32, regs := [(0, (.yld 201229019)), (2, (.ptr 210990003 [])), (4, (.dat (.int .i64))), (11, (.dat (.int .i64))), (12, (.dat (.int .i64)))], round := none, defers := [] }, { fn := 122, n := 119, regs := [(2, (.ptr 11210004 [])), (6, (.ptr 11210002 [])), (8, (.ptr 201220008 []))], round := none, defers := [] }], heap := [(240002, .box (.dat tSe) false), (240003, .box (.dat (.int .i64)) false), (240004, .box (.dat (.int .i64)) false), (240005, .box (.dat (.int .i64)) false), (240007, .box (.dat (.hnd 0 (.struct [tSe, (.int .i64)]))) false), (240008, .box (.dat (.int .i64)) false), (249007, .loop 24 66 [(2, (.ptr 240002 [])), (3, (.ptr 240003 [])), (4, (.ptr 240004 [])), (5, (.ptr 240005 [])), (7, (.ptr 240007 [])), (8, (.ptr 240008 []))] [22] 0 false), (10950001, .box (.dat (.hnd 0 (.struct [tSe, (.int .i64)]))) false), (11210002, .box (.yld 249007) false), (11210003, .box (.fn 96 [(.dat (.hnd 0 (.struct [tSe, (.int .i64)])))] []) false), (11210004, .box (.dat (.arr 7 (.int .i64))) false), (11210005, .box (.dat (.arr 7 (.int .i64))) false), (11210006, .box (.fn 122 [] [(.ptr 10950001 []), (.ptr 11210004 []), (.ptr 11210006 []), (.ptr 11210005 []), (.ptr 11210003 []), (.ptr 11210002 [])]) false), (201220008, .box (.dat .bool) false), (201229019, .loop 122 119 [(1, (.ptr 10950001 [])), (8, (.ptr 201220008 []))] [100] 0 false), (210990003, .box (.dat (.int .i64)) false)], base := 20 }, { key := (123194000000000000004804566, 122, 7, 1), frs := [{ fn := 122, n := 119, regs := [(0, (.dat (.int .i64))), (1, (.ptr 10950001 [])), (2, (.ptr 11210004 [])), (3, (.ptr 11210006 [])), (8, (.ptr 201220008 [])), (9, (.dat (.int .i64))), (50, (.dat (.slice tSm))), (51, (.dat (.int .i64))), (52, (.dat (.int .i64)))], round := none, defers := [] }], heap := [(240002, .box (.dat tSe) false), (240003, .box (.dat (.int .i64)) false), (240004, .box (.dat (.int .i64)) false), (240005, .box (.dat (.int .i64)) false), (240007, .box (.dat (.hnd 0 (.struct [tSe, (.int .i64)]))) false), (240008, .box (.dat (.int .i64)) false), (249007, .loop 24 66 [(2, (.ptr 240002 [])), (3, (.ptr 240003 [])), (4, (.ptr 240004 [])), (5, (.ptr 240005 [])), (7, (.ptr 240007 [])), (8, (.ptr 240008 []))] [22] 0 false), (10950001, .box (.dat (.hnd 0 (.struct [tSe, (.int .i64)]))) false), (11210002, .box (.yld 249007) false), (11210003, .box (.fn 96 [(.dat (.hnd 0 (.struct [tSe, (.int .i64)])))] []) false), (11210004, .box (.dat (.arr 7 (.int .i64))) false), (11210005, .box (.dat (.arr 7 (.int .i64))) false), (11210006, .box (.fn 122 [] [(.ptr 10950001 []), (.ptr 11210004 []), (.ptr 11210006 []), (.ptr 11210005 []), (.ptr 11210003 []), (.ptr 11210002 [])]) false), (201220008, .box (.dat .bool) false)], base := 20 }]
noncomputable def K24s122_0 : Kept := kept0 (cAt Tryd.f122 []) Y24s122
noncomputable def K24s122_1 : Kept := { todos := [[.inLoop (cAt Tryd.f122 [1, 0, 1, 0, 0, 1, 0, 1, 0, 0]), .inBlock 0, .code (cAt Tryd.f122 [1, 0, 1, 0, 0, 1, 1]), .inScope (cAt Tryd.f122 [1, 0, 1, 0, 0]), .code (cAt Tryd.f122 [1, 1])]], cs := [noCodes, noCodes, noCodes, noCodes, noCodes, noCodes, ((cAt Tryd.f24 [1, 1, 1, 1, 0, 1, 0, 0]), (cAt Tryd.f24 [1, 1, 1, 1, 0, 1, 0, 1])), noCodes, noCodes, noCodes, noCodes, noCodes, noCodes, noCodes] }
noncomputable def K24s122_2 : Kept := { todos := [[.inLoop (cAt Tryd.f123 [1, 1, 0, 0]), .inBlock 0], [.inRangeFunc 201229019, .inBlock 4, .code (cAt Tryd.f122 [1, 1, 1, 1, 1])]], cs := [noCodes, noCodes, noCodes, noCodes, noCodes, noCodes, ((cAt Tryd.f24 [1, 1, 1, 1, 0, 1, 0, 0]), (cAt Tryd.f24 [1, 1, 1, 1, 0, 1, 0, 1])), noCodes, noCodes, noCodes, noCodes, noCodes, noCodes, noCodes, ((cAt Tryd.f122 [1, 1, 1, 1, 0, 1, 0, 0]), (cAt Tryd.f122 [1, 1, 1, 1, 0, 1, 0, 1])), noCodes] }
noncomputable def K24s122_3 : Kept := { todos := [[.inLoop (cAt Tryd.f122 [1, 0, 1, 0, 0, 1, 0, 1, 0, 0, 1, 0, 0, 1, 0, 1, 0, 0]), .inBlock 2, .code (cAt Tryd.f122 [1, 0, 1, 0, 0, 1, 0, 1, 0, 0, 1, 0, 0, 1, 1]), .inBlock 1, .code (cAt Tryd.f122 [1, 0, 1, 0, 0, 1, 0, 1, 0, 0, 1, 1]), .inLoop (cAt Tryd.f122 [1, 0, 1, 0, 0, 1, 0, 1, 0, 0]), .inBlock 0, .code (cAt Tryd.f122 [1, 0, 1, 0, 0, 1, 1]), .inScope (cAt Tryd.f122 [1, 0, 1, 0, 0]), .code (cAt Tryd.f122 [1, 1])]], cs := [noCodes, noCodes, noCodes, noCodes, noCodes, noCodes, ((cAt Tryd.f24 [1, 1, 1, 1, 0, 1, 0, 0]), (cAt Tryd.f24 [1, 1, 1, 1, 0, 1, 0, 1])), noCodes, noCodes, noCodes, noCodes, noCodes, noCodes, noCodes] }
noncomputable def X24s122 (f : List (Code × Code) → denK (specAt S24s122 0) → Option (denL [.bool] × denH O24s122)) : Ctx := (cx33).addS 122 (asSub S24s122 20 [.bool] O24s122 f)
abbrev GT24s122 : Type := (n : Nat) → Kept → denK (specAt S24s122 n) → Option (denL [.bool] × denH O24s122)
abbrev FT24s122 : Type := List (Code × Code) → denK (specAt S24s122 0) → Option (denL [.bool] × denH O24s122)
theorem Q24s122_0 (G : GT24s122) (f : FT24s122) (t0 : Int) (h0 : Se) (h1 : Int) (h2 : Int) (h3 : Int) (h4 : (Option Sb)) (h5 : Int) (h7 : (Option Sb)) (h9a_0 : (Option Sb)) (h10 : (List Int)) (h11 : (List Int)) : sseg (X24s122 f) S24s122 [.bool] O24s122 6000 some G 0 K24s122_0 (((t0, ((), ((), ((), ((), ((), ((), ()))))))), ()), (h0, (h1, (h2, (h3, (h4, (h5, (((), ((), ((), ((), ((), ((), ())))))), (h7, ((), (((h9a_0, ()), ()), (h10, (h11, (u8, ())))))))))))))) =
  Option.bind h7 fun (y : Sb) =>
 bif decide (t0 < (↑(List.length (Prod.fst (Prod.fst y))) : Int)) then
  Option.bind h7 fun (y : Sb) =>
   bif decide (0 ≤ t0) && decide (t0 < (↑(List.length (Prod.fst (Prod.fst y))) : Int)) then G 1 K24s122_1 (((t0, (), (), (), (), Prod.fst (List.getD (Prod.fst (Prod.fst y)) (Int.toNat t0) (0, 0, ())), ()), ()), h0, h1, h2, h3, h4, h5, ((), (), (), (), (), (), ()), h7, (), ((h9a_0, ()), ()), h10, h11, u8, false, ()) else none
 else
  bif eqD (Ty.arr 7 (Ty.int IntKind.i64)) h10 h11 then some ((true, ()), h0, h1, h2, h3, h4, h5, (0, (), (), (), (), (), (), ()), h7, (), ((h9a_0, ()), ()), h10, h11, u8, ())
  else
   Option.bind (F96 (h9a_0, h10, ())) fun (y : Int × Unit) =>
    Option.bind h7 fun (y_1 : Sb) =>
     G 2 K24s122_2 ((((), (), -1, (↑(List.length (Prod.fst (Prod.fst y_1))) : Int), 0, ()), ((), (), (), ()), ()), h0, h1, h2, h3, h4, h5, ((), (), (), (), (), (), ()), h7, (), ((h9a_0, ()), ()), h10, h10, u8, false, ((), (), ()), Prod.fst y, ()) := by kernel_rfl
theorem Q24s122_1 (G : GT24s122) (f : FT24s122) (t0 : Int) (t9 : Int) (h0 : Se) (h1 : Int) (h2 : Int) (h3 : Int) (h4 : (Option Sb)) (h5 : Int) (h7 : (Option Sb)) (h9a_0 : (Option Sb)) (h10 : (List Int)) (h11 : (List Int)) (h13 : Bool) : sseg (X24s122 f) S24s122 [.bool] O24s122 6000 some G 1 K24s122_1 (((t0, ((), ((), ((), ((), (t9, ())))))), ()), (h0, (h1, (h2, (h3, (h4, (h5, (((), ((), ((), ((), ((), ((), ())))))), (h7, ((), (((h9a_0, ()), ()), (h10, (h11, (u8, (h13, ()))))))))))))))) =
  Option.bind h7 fun (y : Sb) =>
 bif decide (0 ≤ t0) && decide (t0 < (↑(List.length (Prod.fst (Prod.fst y))) : Int)) then
  bif decide (t9 ≤ Prod.fst (Prod.snd (List.getD (Prod.fst (Prod.fst y)) (Int.toNat t0) (0, 0, ())))) then
   bif decide (0 ≤ t0) && decide (t0 < 7) then
    bif decide (Int.toNat t0 < 7) then
     Option.bind h7 fun (y : Sb) =>
      G 3 K24s122_3 (((t0, (), (), (), (), t9, Prod.fst (Prod.snd (Prod.fst y)), (↑(List.length (Prod.fst (Prod.snd (Prod.fst y)))) : Int), 0, ()), ()), h0, h1, h2, h3, h4, h5, ((), (), (), (), (), (), ()), h7, (), ((h9a_0, ()), ()), List.set h10 (Int.toNat t0) t9, h11, u8, h13, ())
    else none
   else none
  else some ((true, ()), h0, h1, h2, h3, h4, h5, (0, (), (), (), (), (), (), ()), h7, (), ((h9a_0, ()), ()), h10, h11, u8, ())
 else none := by kernel_rfl
theorem Q24s122_2 (G : GT24s122) (f : FT24s122) (t4 : Int) (t11 : Int) (t12 : Int) (h0 : Se) (h1 : Int) (h2 : Int) (h3 : Int) (h4 : (Option Sb)) (h5 : Int) (h7 : (Option Sb)) (h9a_0 : (Option Sb)) (h10 : (List Int)) (h11 : (List Int)) (h13 : Bool) (h15 : Int) : sseg (X24s122 f) S24s122 [.bool] O24s122 6000 some G 2 K24s122_2 ((((), ((), (t4, (t11, (t12, ()))))), (((), ((), ((), ()))), ())), (h0, (h1, (h2, (h3, (h4, (h5, (((), ((), ((), ((), ((), ((), ())))))), (h7, ((), (((h9a_0, ()), ()), (h10, (h11, (u8, (h13, (((), ((), ())), (h15, ()))))))))))))))))) =
  bif decide (t12 < t11) then
 bif decide (t12 < 0) then none
 else
  bif bitF BinOp.and IntKind.i64 (Int.fdiv h15 (2 ^ min (Int.toNat t12) 64)) 1 == 0 then G 2 K24s122_2 ((((), (), t4, t11, IntKind.wrap IntKind.i64 (t12 + 1), ()), ((), (), (), ()), ()), h0, h1, h2, h3, h4, h5, ((), (), (), (), (), (), ()), h7, (), ((h9a_0, ()), ()), h10, h11, u8, h13, ((), (), ()), h15, ())
  else
   bif decide (t4 ≥ 0) then
    Option.bind h7 fun (y : Sb) =>
     Option.bind h7 fun (y_1 : Sb) =>
      Option.bind (F84 (Prod.fst (Prod.fst (Prod.snd (Prod.snd (Prod.fst y)))), Prod.fst (Prod.snd (Prod.fst (Prod.snd (Prod.snd (Prod.fst y_1))))), List.set (List.replicate 1 0) 0 (IntKind.wrap IntKind.i64 (t12 - t4)), ())) fun (y : Bool × Unit) =>
       bif Prod.fst y then some ((true, ()), h0, h1, h2, h3, h4, h5, (0, (), (), (), (), (), (), ()), h7, (), ((h9a_0, ()), ()), h10, h11, u8, ())
       else G 2 K24s122_2 ((((), (), t12, t11, IntKind.wrap IntKind.i64 (t12 + 1), ()), ((), (), (), ()), ()), h0, h1, h2, h3, h4, h5, ((), (), (), (), (), (), ()), h7, (), ((h9a_0, ()), ()), h10, h11, u8, h13, ((), (), ()), h15, ())
   else G 2 K24s122_2 ((((), (), t12, t11, IntKind.wrap IntKind.i64 (t12 + 1), ()), ((), (), (), ()), ()), h0, h1, h2, h3, h4, h5, ((), (), (), (), (), (), ()), h7, (), ((h9a_0, ()), ()), h10, h11, u8, h13, ((), (), ()), h15, ())
 else
 Option.bind (F96 (h4, h10, ())) fun (y : Int × Unit) =>
  bif decide (h1 < 0) then none
  else
   bif decide (h1 > 0) then
    bif decide (IntKind.wrap IntKind.i64 (h1 + 1) < (↑(List.length (Prod.fst h0)) : Int)) then
     bif decide (0 ≤ h1) && decide (h1 < 7) then
      bif decide (Int.toNat h1 < 7) then
       bif decide (0 ≤ IntKind.wrap IntKind.i64 (h1 - 1)) && decide (IntKind.wrap IntKind.i64 (h1 - 1) < 7) then
        bif decide (Int.toNat (IntKind.wrap IntKind.i64 (h1 - 1)) < 7) then
         bif decide (0 ≤ IntKind.wrap IntKind.i64 (h1 + 1)) && decide (IntKind.wrap IntKind.i64 (h1 + 1) < 7) then
          bif decide (Int.toNat (IntKind.wrap IntKind.i64 (h1 + 1)) < 7) then
           bif decide (List.getD h10 (Int.toNat h1) 0 < if List.getD h10 (Int.toNat (IntKind.wrap IntKind.i64 (h1 + 1))) 0 < List.getD h10 (Int.toNat (IntKind.wrap IntKind.i64 (h1 - 1))) 0 then List.getD h10 (Int.toNat (IntKind.wrap IntKind.i64 (h1 + 1))) 0 else List.getD h10 (Int.toNat (IntKind.wrap IntKind.i64 (h1 - 1))) 0) then
            some ((true, ()), h0, h1, IntKind.wrap IntKind.i64 (h2 + bitF BinOp.and IntKind.i64 (Int.fdiv (Prod.fst y) (2 ^ min (Int.toNat h1) 64)) 1), IntKind.wrap IntKind.i64 (h3 + 1), h4, IntKind.wrap IntKind.i64 (h5 + 1), (0, (), (), (), (), (), (), ()), h7, (), ((h9a_0, ()), ()), h10, h11, u8, ())
           else some ((true, ()), h0, h1, IntKind.wrap IntKind.i64 (h2 + bitF BinOp.and IntKind.i64 (Int.fdiv (Prod.fst y) (2 ^ min (Int.toNat h1) 64)) 1), h3, h4, IntKind.wrap IntKind.i64 (h5 + 1), (0, (), (), (), (), (), (), ()), h7, (), ((h9a_0, ()), ()), h10, h11, u8, ())
          else none
         else none
        else none
       else none
      else none
     else none
    else some ((true, ()), h0, h1, IntKind.wrap IntKind.i64 (h2 + bitF BinOp.and IntKind.i64 (Int.fdiv (Prod.fst y) (2 ^ min (Int.toNat h1) 64)) 1), h3, h4, IntKind.wrap IntKind.i64 (h5 + 1), (0, (), (), (), (), (), (), ()), h7, (), ((h9a_0, ()), ()), h10, h11, u8, ())
   else some ((true, ()), h0, h1, IntKind.wrap IntKind.i64 (h2 + bitF BinOp.and IntKind.i64 (Int.fdiv (Prod.fst y) (2 ^ min (Int.toNat h1) 64)) 1), h3, h4, IntKind.wrap IntKind.i64 (h5 + 1), (0, (), (), (), (), (), (), ()), h7, (), ((h9a_0, ()), ()), h10, h11, u8, ()) := by kernel_rfl
theorem Q24s122_3 (G : GT24s122) (f : FT24s122) (t0 : Int) (t9 : Int) (t50 : (List Sm)) (t51 : Int) (t52 : Int) (h0 : Se) (h1 : Int) (h2 : Int) (h3 : Int) (h4 : (Option Sb)) (h5 : Int) (h7 : (Option Sb)) (h9a_0 : (Option Sb)) (h10 : (List Int)) (h11 : (List Int)) (h13 : Bool) : sseg (X24s122 f) S24s122 [.bool] O24s122 6000 some G 3 K24s122_3 (((t0, ((), ((), ((), ((), (t9, (t50, (t51, (t52, ()))))))))), ()), (h0, (h1, (h2, (h3, (h4, (h5, (((), ((), ((), ((), ((), ((), ())))))), (h7, ((), (((h9a_0, ()), ()), (h10, (h11, (u8, (h13, ()))))))))))))))) =
  bif decide (t52 < t51) then
 bif decide (0 ≤ t52) && decide (t52 < (↑(List.length t50) : Int)) then
  bif Prod.fst (Prod.snd (List.getD t50 (Int.toNat t52) (0, 0, (0, 0, ()), ()))) == t0 then
   Option.bind h7 fun (y : Sb) =>
    bif decide (t52 < 0) then none
    else
     bif bitF BinOp.and IntKind.i64 (Int.fdiv (Prod.fst (Prod.snd y)) (2 ^ min (Int.toNat t52) 64)) 1 == 0 then
      Option.bind (F120 (h10, Prod.fst (List.getD t50 (Int.toNat t52) (0, 0, (0, 0, ()), ())), t0, ())) fun (y : Int × Unit) =>
       Option.bind (F84 (Prod.fst (Prod.fst (Prod.snd (Prod.snd (List.getD t50 (Int.toNat t52) (0, 0, (0, 0, ()), ()))))), Prod.fst (Prod.snd (Prod.fst (Prod.snd (Prod.snd (List.getD t50 (Int.toNat t52) (0, 0, (0, 0, ()), ())))))), List.set (List.replicate 1 0) 0 (Prod.fst y), ())) fun (y : Bool × Unit) =>
        bif Prod.fst y then G 1 K24s122_1 (((t0, (), (), (), (), IntKind.wrap IntKind.i64 (t9 + 1), ()), ()), h0, h1, h2, h3, h4, h5, ((), (), (), (), (), (), ()), h7, (), ((h9a_0, ()), ()), h10, h11, u8, h13, ())
        else G 3 K24s122_3 (((t0, (), (), (), (), t9, t50, t51, IntKind.wrap IntKind.i64 (t52 + 1), ()), ()), h0, h1, h2, h3, h4, h5, ((), (), (), (), (), (), ()), h7, (), ((h9a_0, ()), ()), h10, h11, u8, h13, ())
     else G 3 K24s122_3 (((t0, (), (), (), (), t9, t50, t51, IntKind.wrap IntKind.i64 (t52 + 1), ()), ()), h0, h1, h2, h3, h4, h5, ((), (), (), (), (), (), ()), h7, (), ((h9a_0, ()), ()), h10, h11, u8, h13, ())
  else G 3 K24s122_3 (((t0, (), (), (), (), t9, t50, t51, IntKind.wrap IntKind.i64 (t52 + 1), ()), ()), h0, h1, h2, h3, h4, h5, ((), (), (), (), (), (), ()), h7, (), ((h9a_0, ()), ()), h10, h11, u8, h13, ())
 else none
 else
 Option.bind (f Y24s122 (((IntKind.wrap IntKind.i64 (t0 + 1), (), (), (), (), (), (), ()), ()), h0, h1, h2, h3, h4, h5, ((), (), (), (), (), (), ()), h7, (), ((h9a_0, ()), ()), h10, h11, u8, ()))
  fun
   (y :
     (Bool × Unit) ×
      Se ×
       Int ×
        Int ×
         Int ×
          Option Sb ×
           Int ×
            (Nat × Unit × Unit × Unit × Unit × Unit × Unit × Unit) ×
             Option Sb × Unit × ((Option Sb × Unit) × Unit) × List Int × List Int × (Unit × Unit × Unit × Unit × Unit × Unit × Unit × Unit) × Unit) =>
  bif Nat.beq (Prod.fst (Prod.fst (Prod.snd (Prod.snd (Prod.snd (Prod.snd (Prod.snd (Prod.snd (Prod.snd y))))))))) 0 then
   bif !Prod.fst (Prod.fst y) then
    some
     ((false, ()), Prod.fst (Prod.snd y), Prod.fst (Prod.snd (Prod.snd y)), Prod.fst (Prod.snd (Prod.snd (Prod.snd y))), Prod.fst (Prod.snd (Prod.snd (Prod.snd (Prod.snd y)))), Prod.fst (Prod.snd (Prod.snd (Prod.snd (Prod.snd (Prod.snd y))))), Prod.fst (Prod.snd (Prod.snd (Prod.snd (Prod.snd (Prod.snd (Prod.snd y)))))), (0, (), (), (), (), (), (), ()),
       Prod.fst (Prod.snd (Prod.snd (Prod.snd (Prod.snd (Prod.snd (Prod.snd (Prod.snd (Prod.snd y)))))))), (), ((Prod.fst (Prod.fst (Prod.fst (Prod.snd (Prod.snd (Prod.snd (Prod.snd (Prod.snd (Prod.snd (Prod.snd (Prod.snd (Prod.snd (Prod.snd y)))))))))))), ()), ()),
       Prod.fst (Prod.snd (Prod.snd (Prod.snd (Prod.snd (Prod.snd (Prod.snd (Prod.snd (Prod.snd (Prod.snd (Prod.snd (Prod.snd y))))))))))), Prod.fst (Prod.snd (Prod.snd (Prod.snd (Prod.snd (Prod.snd (Prod.snd (Prod.snd (Prod.snd (Prod.snd (Prod.snd (Prod.snd (Prod.snd y)))))))))))), u8, ())
   else
    G 1 K24s122_1
     (((t0, (), (), (), (), IntKind.wrap IntKind.i64 (t9 + 1), ()), ()), Prod.fst (Prod.snd y), Prod.fst (Prod.snd (Prod.snd y)), Prod.fst (Prod.snd (Prod.snd (Prod.snd y))), Prod.fst (Prod.snd (Prod.snd (Prod.snd (Prod.snd y)))), Prod.fst (Prod.snd (Prod.snd (Prod.snd (Prod.snd (Prod.snd y))))), Prod.fst (Prod.snd (Prod.snd (Prod.snd (Prod.snd (Prod.snd (Prod.snd y)))))),
       ((), (), (), (), (), (), ()), Prod.fst (Prod.snd (Prod.snd (Prod.snd (Prod.snd (Prod.snd (Prod.snd (Prod.snd (Prod.snd y)))))))), (), ((Prod.fst (Prod.fst (Prod.fst (Prod.snd (Prod.snd (Prod.snd (Prod.snd (Prod.snd (Prod.snd (Prod.snd (Prod.snd (Prod.snd (Prod.snd y)))))))))))), ()), ()),
       Prod.fst (Prod.snd (Prod.snd (Prod.snd (Prod.snd (Prod.snd (Prod.snd (Prod.snd (Prod.snd (Prod.snd (Prod.snd (Prod.snd y))))))))))), Prod.fst (Prod.snd (Prod.snd (Prod.snd (Prod.snd (Prod.snd (Prod.snd (Prod.snd (Prod.snd (Prod.snd (Prod.snd (Prod.snd (Prod.snd y)))))))))))), u8, h13, ())
  else none := by kernel_rfl
noncomputable def G24s122 : List (Code × Code) → denK (specAt S24s122 0) → Option (denL [.bool] × denH O24s122) := gsub (cx33) 122 (cAt Tryd.f122 []) S24s122 20 [.bool] O24s122 6000
noncomputable def cx24s122 : Ctx := X24s122 G24s122
def S24 : List Gh.Spec := []
abbrev GT24 : Type := (n : Nat) → Kept → denK (specAt S24 n) → Option (denL [(.int .i64), (.int .i64), (.int .i64)])
theorem E24 (G : GT24) (t0 : Se) (t1 : Int) : enter cx24s122 S24 [(.int .i64), (.int .i64), (.int .i64)] 6000 some G 24 [tSe, (.int .i64)] (t0, (t1, ())) =
  Option.bind (F88 (t0, 0, List.set (List.replicate 1 0) 0 t1, ())) fun (y : Option Sb × Int × Unit) =>
 bif Prod.fst (Prod.snd y) != 0 then some (0, 0, Prod.fst (Prod.snd y), ())
 else
  Option.bind (G24s122 Y24s122 (((0, (), (), (), (), (), (), ()), ()), t0, t1, 0, 0, Prod.fst y, 0, ((), (), (), (), (), (), ()), Prod.fst y, (), ((Prod.fst y, ()), ()), List.replicate 7 0, -1 :: List.replicate 6 0, u8, ()))
   fun
    (y :
      (Bool × Unit) ×
       Se ×
        Int ×
         Int ×
          Int ×
           Option Sb ×
            Int ×
             (Nat × Unit × Unit × Unit × Unit × Unit × Unit × Unit) ×
              Option Sb × Unit × ((Option Sb × Unit) × Unit) × List Int × List Int × (Unit × Unit × Unit × Unit × Unit × Unit × Unit × Unit) × Unit) =>
   bif Nat.beq (Prod.fst (Prod.fst (Prod.snd (Prod.snd (Prod.snd (Prod.snd (Prod.snd (Prod.snd (Prod.snd y))))))))) 0 then
    Option.bind (F97 (Prod.fst (Prod.snd (Prod.snd (Prod.snd y))), Prod.fst (Prod.snd (Prod.snd (Prod.snd (Prod.snd (Prod.snd (Prod.snd y)))))), ())) fun (y_1 : Int × Unit) => Option.bind (F97 (Prod.fst (Prod.snd (Prod.snd (Prod.snd (Prod.snd y)))), Prod.fst (Prod.snd (Prod.snd (Prod.snd (Prod.snd (Prod.snd (Prod.snd y)))))), ())) fun (y : Int × Unit) => some (Prod.fst y_1, Prod.fst y, 0, ())
   else none := by kernel_rfl
noncomputable def F24 : denL [tSe, (.int .i64)] → Option (denL [(.int .i64), (.int .i64), (.int .i64)]) := ghost cx24s122 S24 6000 24 [tSe, (.int .i64)] [(.int .i64), (.int .i64), (.int .i64)]
noncomputable def C24 : Con := ⟨[tSe, (.int .i64)], [(.int .i64), (.int .i64), (.int .i64)], F24⟩
noncomputable def cx24 : Ctx := cx33.add 24 C24
def O26s122 : List (Nat × BSh) := [(260002, .box (.dat tSp) false), (260004, .box (.dat (.hnd 0 (.struct [tSe, (.int .i64)]))) false), (260006, .box (.dat tSp) false), (269007, .loopE 26 35 [(4, (.ptr 260004 [])), (6, (.ptr 260006 []))] [21] 0 [0]), (10950001, .box (.dat (.hnd 0 (.struct [tSe, (.int .i64)]))) false), (11210002, .box (.yld 269007) false), (11210003, .box (.fn 96 [(.dat (.hnd 0 (.struct [tSe, (.int .i64)])))] []) false), (11210004, .box (.dat (.arr 7 (.int .i64))) false), (11210005, .box (.dat (.arr 7 (.int .i64))) false), (11210006, .box (.fn 122 [] [(.ptr 10950001 []), (.ptr 11210004 []), (.ptr 11210006 []), (.ptr 11210005 []), (.ptr 11210003 []), (.ptr 11210002 [])]) false)]
noncomputable def Y26s122 : List (Code × Code) := [noCodes, noCodes, noCodes, ((cAt Tryd.f26 [1, 1, 1, 1, 0, 1, 0, 0]), (cAt Tryd.f26 [1, 1, 1, 1, 0, 1, 0, 1])), noCodes, noCodes, noCodes, noCodes, noCodes, noCodes]
def S26s122 : List Gh.Spec := [{ key := (0, 0, 0, 0), frs := [{ fn := 122, n := 119, regs := [(0, (.dat (.int .i64))), (1, (.ptr 10950001 [])), (2, (.ptr 11210004 [])), (3, (.ptr 11210006 [])), (4, (.ptr 11210005 [])), (5, (.ptr 11210003 [])), (6, (.ptr 11210002 []))], round := none, defers := [] }], heap := [(260002, .box (.dat tSp) false), (260004, .box (.dat (.hnd 0 (.struct [tSe, (.int .i64)]))) false), (260006, .box (.dat tSp) false), (269007, .loop 26 35 [(4, (.ptr 260004 [])), (6, (.ptr 260006 []))] [21] 0 false), (10950001, .box (.dat (.hnd 0 (.struct [tSe, (.int .i64)]))) false), (11210002, .box (.yld 269007) false), (11210003, .box (.fn 96 [(.dat (.hnd 0 (.struct [tSe, (.int .i64)])))] []) false), (11210004, .box (.dat (.arr 7 (.int .i64))) false), (11210005, .box (.dat (.arr 7 (.int .i64))) false), (11210006, .box (.fn 122 [] [(.ptr 10950001 []), (.ptr 11210004 []), (.ptr 11210006 []), (.ptr 11210005 []), (.ptr 11210003 []), (.ptr 11210002 [])]) false)], base := 20 }, { key := (123194000000000000004804566, 122, 3, 1), frs := [{ fn := 122, n := 119, regs := [(0, (.dat (.int .i64))), (1, (.ptr 10950001 [])), (2, (.ptr 11210004 [])), (3, (.ptr 11210006 [])), (8, (.ptr 201220008 [])), (9, (.dat (.int .i64)))], round := none, defers := [] }], heap := [(260002, .box (.dat tSp) false), (260004, .box (.dat (.hnd 0 (.struct [tSe, (.int .i64)]))) false), (260006, .box (.dat tSp) false), (269007, .loop 26 35 [(4, (.ptr 260004 [])), (6, (.ptr 260006 []))] [21] 0 false), (10950001, .box (.dat (.hnd 0 (.struct [tSe, (.int .i64)]))) false), (11210002, .box (.yld 269007) false), (11210003, .box (.fn 96 [(.dat (.hnd 0 (.struct [tSe, (.int .i64)])))] []) false), (11210004, .box (.dat (.arr 7 (.int .i64))) false), (11210005, .box (.dat (.arr 7 (.int .i64))) false), (11210006, .box (.fn 122 [] [(.ptr 10950001 []), (.ptr 11210004 []), (.ptr 11210006 []), (.ptr 11210005 []), (.ptr 11210003 []), (.ptr 11210002 [])]) false), (201220008, .box (.dat .bool) false)], base := 20 }, { key := (123194000000000000004804589, 123, 2, 1), frs := [{ fn := 123, n := 32, regs := [(0, (.yld 201229019)), (2, (.ptr 210990003 [])), (4, (.dat (.int .i64))), (11, (.dat (.int .i64))), (12, (.dat (.int .i64)))], round := none, defers := [] }, { fn := 122, n := 119, regs := [(2, (.ptr 11210004 [])), (6, (.ptr 11210002 [])), (8, (.ptr 201220008 []))], round := none, defers := [] }], heap := [(260002, .box (.dat tSp) false), (260004, .box (.dat (.hnd 0 (.struct [tSe, (.int .i64)]))) false), (260006, .box (.dat tSp) false), (269007, .loop 26 35 [(4, (.ptr 260004 [])), (6, (.ptr 260006 []))] [21] 0 false), (10950001, .box (.dat (.hnd 0 (.struct [tSe, (.int .i64)]))) false), (11210002, .box (.yld 269007) false), (11210003, .box (.fn 96 [(.dat (.hnd 0 (.struct [tSe, (.int .i64)])))] []) false), (11210004, .box (.dat (.arr 7 (.int .i64))) false), (11210005, .box (.dat (.arr 7 (.int .i64))) false), (11210006, .box (.fn 122 [] [(.ptr 10950001 []), (.ptr 11210004 []), (.ptr 11210006 []), (.ptr 11210005 []), (.ptr 11210003 []), (.ptr 11210002 [])]) false), (201220008, .box (.dat .bool) false), (201229019, .loop 122 119 [(1, (.ptr 10950001 [])), (8, (.ptr 201220008 []))] [100] 0 false), (210990003, .box (.dat (.int .i64)) false)], base := 20 }, { key := (123194000000000000004804566, 122, 7, 1), frs := [{ fn := 122, n := 119, regs := [(0, (.dat (.int .i64))), (1, (.ptr 10950001 [])), (2, (.ptr 11210004 [])), (3, (.ptr 11210006 [])), (8, (.ptr 201220008 [])), (9, (.dat (.int .i64))), (50, (.dat (.slice tSm))), (51, (.dat (.int .i64))), (52, (.dat (.int .i64)))], round := none, defers := [] }], heap := [(260002, .box (.dat tSp) false), (260004, .box (.dat (.hnd 0 (.struct [tSe, (.int .i64)]))) false), (260006, .box (.dat tSp) false), (269007, .loop 26 35 [(4, (.ptr 260004 [])), (6, (.ptr 260006 []))] [21] 0 false), (10950001, .box (.dat (.hnd 0 (.struct [tSe, (.int .i64)]))) false), (11210002, .box (.yld 269007) false), (11210003, .box (.fn 96 [(.dat (.hnd 0 (.struct [tSe, (.int .i64)])))] []) false), (11210004, .box (.dat (.arr 7 (.int .i64))) false), (11210005, .box (.dat (.arr 7 (.int .i64))) false), (11210006, .box (.fn 122 [] [(.ptr 10950001 []), (.ptr 11210004 []), (.ptr 11210006 []), (.ptr 11210005 []), (.ptr 11210003 []), (.ptr 11210002 [])]) false), (201220008, .box (.dat .bool) false)], base := 20 }, { key := (123194000000000100007104573, 123, 2, 1), frs := [{ fn := 123, n := 32, regs := [(0, (.yld 210269009)), (2, (.ptr 220990003 [])), (4, (.dat (.int .i64))), (11, (.dat (.int .i64))), (12, (.dat (.int .i64)))], round := none, defers := [] }, { fn := 26, n := 35, regs := [], round := (some 269007), defers := [] }, { fn := 122, n := 119, regs := [(8, (.ptr 201220008 [])), (116, (.yld 269007)), (117, (.dat (.arr 7 (.int .i64))))], round := none, defers := [] }], heap := [(260002, .box (.dat tSp) false), (260004, .box (.dat (.hnd 0 (.struct [tSe, (.int .i64)]))) false), (260006, .box (.dat tSp) false), (269007, .loop 26 35 [(4, (.ptr 260004 [])), (6, (.ptr 260006 []))] [21] 0 true), (10950001, .box (.dat (.hnd 0 (.struct [tSe, (.int .i64)]))) false), (11210002, .box (.yld 269007) false), (11210003, .box (.fn 96 [(.dat (.hnd 0 (.struct [tSe, (.int .i64)])))] []) false), (11210004, .box (.dat (.arr 7 (.int .i64))) false), (11210005, .box (.dat (.arr 7 (.int .i64))) false), (11210006, .box (.fn 122 [] [(.ptr 10950001 []), (.ptr 11210004 []), (.ptr 11210006 []), (.ptr 11210005 []), (.ptr 11210003 []), (.ptr 11210002 [])]) false), (201220008, .box (.dat .bool) false), (210269009, .loop 26 35 [(6, (.ptr 260006 []))] [27] 0 false), (220990003, .box (.dat (.int .i64)) false)], base := 20 }]
noncomputable def K26s122_0 : Kept := kept0 (cAt Tryd.f122 []) Y26s122
noncomputable def K26s122_1 : Kept := { todos := [[.inLoop (cAt Tryd.f122 [1, 0, 1, 0, 0, 1, 0, 1, 0, 0]), .inBlock 0, .code (cAt Tryd.f122 [1, 0, 1, 0, 0, 1, 1]), .inScope (cAt Tryd.f122 [1, 0, 1, 0, 0]), .code (cAt Tryd.f122 [1, 1])]], cs := [noCodes, noCodes, noCodes, ((cAt Tryd.f26 [1, 1, 1, 1, 0, 1, 0, 0]), (cAt Tryd.f26 [1, 1, 1, 1, 0, 1, 0, 1])), noCodes, noCodes, noCodes, noCodes, noCodes, noCodes, noCodes] }
noncomputable def K26s122_2 : Kept := { todos := [[.inLoop (cAt Tryd.f123 [1, 1, 0, 0]), .inBlock 0], [.inRangeFunc 201229019, .inBlock 4, .code (cAt Tryd.f122 [1, 1, 1, 1, 1])]], cs := [noCodes, noCodes, noCodes, ((cAt Tryd.f26 [1, 1, 1, 1, 0, 1, 0, 0]), (cAt Tryd.f26 [1, 1, 1, 1, 0, 1, 0, 1])), noCodes, noCodes, noCodes, noCodes, noCodes, noCodes, noCodes, ((cAt Tryd.f122 [1, 1, 1, 1, 0, 1, 0, 0]), (cAt Tryd.f122 [1, 1, 1, 1, 0, 1, 0, 1])), noCodes] }
noncomputable def K26s122_3 : Kept := { todos := [[.inLoop (cAt Tryd.f122 [1, 0, 1, 0, 0, 1, 0, 1, 0, 0, 1, 0, 0, 1, 0, 1, 0, 0]), .inBlock 2, .code (cAt Tryd.f122 [1, 0, 1, 0, 0, 1, 0, 1, 0, 0, 1, 0, 0, 1, 1]), .inBlock 1, .code (cAt Tryd.f122 [1, 0, 1, 0, 0, 1, 0, 1, 0, 0, 1, 1]), .inLoop (cAt Tryd.f122 [1, 0, 1, 0, 0, 1, 0, 1, 0, 0]), .inBlock 0, .code (cAt Tryd.f122 [1, 0, 1, 0, 0, 1, 1]), .inScope (cAt Tryd.f122 [1, 0, 1, 0, 0]), .code (cAt Tryd.f122 [1, 1])]], cs := [noCodes, noCodes, noCodes, ((cAt Tryd.f26 [1, 1, 1, 1, 0, 1, 0, 0]), (cAt Tryd.f26 [1, 1, 1, 1, 0, 1, 0, 1])), noCodes, noCodes, noCodes, noCodes, noCodes, noCodes, noCodes] }
noncomputable def K26s122_4 : Kept := { todos := [[.inLoop (cAt Tryd.f123 [1, 1, 0, 0]), .inBlock 0], [.inRangeFunc 210269009, .inBlock 2, .inBlock 1], [.inRegion (oAt Tryd.f122 [1, 1, 1, 1, 1, 0]) [2, 3], .code (cAt Tryd.f122 [1, 0, 1, 0, 0, 1, 0, 1, 0, 0, 1, 0, 0, 1, 1, 1, 0, 1])]], cs := [noCodes, noCodes, noCodes, ((cAt Tryd.f26 [1, 1, 1, 1, 0, 1, 0, 0]), (cAt Tryd.f26 [1, 1, 1, 1, 0, 1, 0, 1])), noCodes, noCodes, noCodes, noCodes, noCodes, noCodes, noCodes, ((cAt Tryd.f26 [1, 1, 1, 1, 0, 1, 0, 1, 0, 1, 0, 0]), (cAt Tryd.f26 [1, 1, 1, 1, 0, 1, 0, 1, 0, 1, 0, 1])), noCodes] }
noncomputable def X26s122 (f : List (Code × Code) → denK (specAt S26s122 0) → Option (denL [.bool] × denH O26s122)) : Ctx := (cx24).addS 122 (asSub S26s122 20 [.bool] O26s122 f)
abbrev GT26s122 : Type := (n : Nat) → Kept → denK (specAt S26s122 n) → Option (denL [.bool] × denH O26s122)
abbrev FT26s122 : Type := List (Code × Code) → denK (specAt S26s122 0) → Option (denL [.bool] × denH O26s122)
theorem Q26s122_0 (G : GT26s122) (f : FT26s122) (t0 : Int) (h0 : Sp) (h1 : (Option Sb)) (h2 : Sp) (h4 : (Option Sb)) (h6a_0 : (Option Sb)) (h7 : (List Int)) (h8 : (List Int)) : sseg (X26s122 f) S26s122 [.bool] O26s122 6000 some G 0 K26s122_0 (((t0, ((), ((), ((), ((), ((), ((), ()))))))), ()), (h0, (h1, (h2, (((), ((), ())), (h4, ((), (((h6a_0, ()), ()), (h7, (h8, (u8, ()))))))))))) =
  Option.bind h4 fun (y : Sb) =>
 bif decide (t0 < (↑(List.length (Prod.fst (Prod.fst y))) : Int)) then
  Option.bind h4 fun (y : Sb) =>
   bif decide (0 ≤ t0) && decide (t0 < (↑(List.length (Prod.fst (Prod.fst y))) : Int)) then G 1 K26s122_1 (((t0, (), (), (), (), Prod.fst (List.getD (Prod.fst (Prod.fst y)) (Int.toNat t0) (0, 0, ())), ()), ()), h0, h1, h2, ((), (), ()), h4, (), ((h6a_0, ()), ()), h7, h8, u8, false, ()) else none
 else
  bif eqD (Ty.arr 7 (Ty.int IntKind.i64)) h7 h8 then some ((true, ()), h0, h1, h2, (0, (), (), ()), h4, (), ((h6a_0, ()), ()), h7, h8, u8, ())
  else
   Option.bind (F96 (h6a_0, h7, ())) fun (y : Int × Unit) =>
    Option.bind h4 fun (y_1 : Sb) => G 2 K26s122_2 ((((), (), -1, (↑(List.length (Prod.fst (Prod.fst y_1))) : Int), 0, ()), ((), (), (), ()), ()), h0, h1, h2, ((), (), ()), h4, (), ((h6a_0, ()), ()), h7, h7, u8, false, ((), (), ()), Prod.fst y, ()) := by kernel_rfl
theorem Q26s122_1 (G : GT26s122) (f : FT26s122) (t0 : Int) (t9 : Int) (h0 : Sp) (h1 : (Option Sb)) (h2 : Sp) (h4 : (Option Sb)) (h6a_0 : (Option Sb)) (h7 : (List Int)) (h8 : (List Int)) (h10 : Bool) : sseg (X26s122 f) S26s122 [.bool] O26s122 6000 some G 1 K26s122_1 (((t0, ((), ((), ((), ((), (t9, ())))))), ()), (h0, (h1, (h2, (((), ((), ())), (h4, ((), (((h6a_0, ()), ()), (h7, (h8, (u8, (h10, ())))))))))))) =
  Option.bind h4 fun (y : Sb) =>
 bif decide (0 ≤ t0) && decide (t0 < (↑(List.length (Prod.fst (Prod.fst y))) : Int)) then
  bif decide (t9 ≤ Prod.fst (Prod.snd (List.getD (Prod.fst (Prod.fst y)) (Int.toNat t0) (0, 0, ())))) then
   bif decide (0 ≤ t0) && decide (t0 < 7) then
    bif decide (Int.toNat t0 < 7) then
     Option.bind h4 fun (y : Sb) =>
      G 3 K26s122_3 (((t0, (), (), (), (), t9, Prod.fst (Prod.snd (Prod.fst y)), (↑(List.length (Prod.fst (Prod.snd (Prod.fst y)))) : Int), 0, ()), ()), h0, h1, h2, ((), (), ()), h4, (), ((h6a_0, ()), ()), List.set h7 (Int.toNat t0) t9, h8, u8, h10, ())
    else none
   else none
  else some ((true, ()), h0, h1, h2, (0, (), (), ()), h4, (), ((h6a_0, ()), ()), h7, h8, u8, ())
 else none := by kernel_rfl
theorem Q26s122_2 (G : GT26s122) (f : FT26s122) (t4 : Int) (t11 : Int) (t12 : Int) (h0 : Sp) (h1 : (Option Sb)) (h2 : Sp) (h4 : (Option Sb)) (h6a_0 : (Option Sb)) (h7 : (List Int)) (h8 : (List Int)) (h10 : Bool) (h12 : Int) : sseg (X26s122 f) S26s122 [.bool] O26s122 6000 some G 2 K26s122_2 ((((), ((), (t4, (t11, (t12, ()))))), (((), ((), ((), ()))), ())), (h0, (h1, (h2, (((), ((), ())), (h4, ((), (((h6a_0, ()), ()), (h7, (h8, (u8, (h10, (((), ((), ())), (h12, ())))))))))))))) =
  bif decide (t12 < t11) then
 bif decide (t12 < 0) then none
 else
  bif bitF BinOp.and IntKind.i64 (Int.fdiv h12 (2 ^ min (Int.toNat t12) 64)) 1 == 0 then G 2 K26s122_2 ((((), (), t4, t11, IntKind.wrap IntKind.i64 (t12 + 1), ()), ((), (), (), ()), ()), h0, h1, h2, ((), (), ()), h4, (), ((h6a_0, ()), ()), h7, h8, u8, h10, ((), (), ()), h12, ())
  else
   bif decide (t4 ≥ 0) then
    Option.bind h4 fun (y : Sb) =>
     Option.bind h4 fun (y_1 : Sb) =>
      Option.bind (F84 (Prod.fst (Prod.fst (Prod.snd (Prod.snd (Prod.fst y)))), Prod.fst (Prod.snd (Prod.fst (Prod.snd (Prod.snd (Prod.fst y_1))))), List.set (List.replicate 1 0) 0 (IntKind.wrap IntKind.i64 (t12 - t4)), ())) fun (y : Bool × Unit) =>
       bif Prod.fst y then some ((true, ()), h0, h1, h2, (0, (), (), ()), h4, (), ((h6a_0, ()), ()), h7, h8, u8, ()) else G 2 K26s122_2 ((((), (), t12, t11, IntKind.wrap IntKind.i64 (t12 + 1), ()), ((), (), (), ()), ()), h0, h1, h2, ((), (), ()), h4, (), ((h6a_0, ()), ()), h7, h8, u8, h10, ((), (), ()), h12, ())
   else G 2 K26s122_2 ((((), (), t12, t11, IntKind.wrap IntKind.i64 (t12 + 1), ()), ((), (), (), ()), ()), h0, h1, h2, ((), (), ()), h4, (), ((h6a_0, ()), ()), h7, h8, u8, h10, ((), (), ()), h12, ())
 else
 Option.bind (F96 (h1, h7, ())) fun (y : Int × Unit) =>
  Option.bind h1 fun (y_1 : Sb) => G 4 K26s122_4 ((((), (), -1, (↑(List.length (Prod.fst (Prod.fst y_1))) : Int), 0, ()), (), ((), (), h7, ()), ()), h0, h1, h2, ((), (), ()), h4, (), ((h6a_0, ()), ()), h7, h8, u8, h10, ((), ()), Prod.fst y, ()) := by kernel_rfl
theorem Q26s122_3 (G : GT26s122) (f : FT26s122) (t0 : Int) (t9 : Int) (t50 : (List Sm)) (t51 : Int) (t52 : Int) (h0 : Sp) (h1 : (Option Sb)) (h2 : Sp) (h4 : (Option Sb)) (h6a_0 : (Option Sb)) (h7 : (List Int)) (h8 : (List Int)) (h10 : Bool) : sseg (X26s122 f) S26s122 [.bool] O26s122 6000 some G 3 K26s122_3 (((t0, ((), ((), ((), ((), (t9, (t50, (t51, (t52, ()))))))))), ()), (h0, (h1, (h2, (((), ((), ())), (h4, ((), (((h6a_0, ()), ()), (h7, (h8, (u8, (h10, ())))))))))))) =
  bif decide (t52 < t51) then
 bif decide (0 ≤ t52) && decide (t52 < (↑(List.length t50) : Int)) then
  bif Prod.fst (Prod.snd (List.getD t50 (Int.toNat t52) (0, 0, (0, 0, ()), ()))) == t0 then
   Option.bind h4 fun (y : Sb) =>
    bif decide (t52 < 0) then none
    else
     bif bitF BinOp.and IntKind.i64 (Int.fdiv (Prod.fst (Prod.snd y)) (2 ^ min (Int.toNat t52) 64)) 1 == 0 then
      Option.bind (F120 (h7, Prod.fst (List.getD t50 (Int.toNat t52) (0, 0, (0, 0, ()), ())), t0, ())) fun (y : Int × Unit) =>
       Option.bind (F84 (Prod.fst (Prod.fst (Prod.snd (Prod.snd (List.getD t50 (Int.toNat t52) (0, 0, (0, 0, ()), ()))))), Prod.fst (Prod.snd (Prod.fst (Prod.snd (Prod.snd (List.getD t50 (Int.toNat t52) (0, 0, (0, 0, ()), ())))))), List.set (List.replicate 1 0) 0 (Prod.fst y), ())) fun (y : Bool × Unit) =>
        bif Prod.fst y then G 1 K26s122_1 (((t0, (), (), (), (), IntKind.wrap IntKind.i64 (t9 + 1), ()), ()), h0, h1, h2, ((), (), ()), h4, (), ((h6a_0, ()), ()), h7, h8, u8, h10, ())
        else G 3 K26s122_3 (((t0, (), (), (), (), t9, t50, t51, IntKind.wrap IntKind.i64 (t52 + 1), ()), ()), h0, h1, h2, ((), (), ()), h4, (), ((h6a_0, ()), ()), h7, h8, u8, h10, ())
     else G 3 K26s122_3 (((t0, (), (), (), (), t9, t50, t51, IntKind.wrap IntKind.i64 (t52 + 1), ()), ()), h0, h1, h2, ((), (), ()), h4, (), ((h6a_0, ()), ()), h7, h8, u8, h10, ())
  else G 3 K26s122_3 (((t0, (), (), (), (), t9, t50, t51, IntKind.wrap IntKind.i64 (t52 + 1), ()), ()), h0, h1, h2, ((), (), ()), h4, (), ((h6a_0, ()), ()), h7, h8, u8, h10, ())
 else none
 else
 Option.bind (f Y26s122 (((IntKind.wrap IntKind.i64 (t0 + 1), (), (), (), (), (), (), ()), ()), h0, h1, h2, ((), (), ()), h4, (), ((h6a_0, ()), ()), h7, h8, u8, ()))
  fun
   (y :
     (Bool × Unit) ×
      Sp ×
       Option Sb ×
        Sp ×
         (Nat × Unit × Unit × Unit) ×
          Option Sb × Unit × ((Option Sb × Unit) × Unit) × List Int × List Int × (Unit × Unit × Unit × Unit × Unit × Unit × Unit × Unit) × Unit) =>
  bif Nat.beq (Prod.fst (Prod.fst (Prod.snd (Prod.snd (Prod.snd (Prod.snd y)))))) 0 then
   bif !Prod.fst (Prod.fst y) then
    some
     ((false, ()), Prod.fst (Prod.snd y), Prod.fst (Prod.snd (Prod.snd y)), Prod.fst (Prod.snd (Prod.snd (Prod.snd y))), (0, (), (), ()), Prod.fst (Prod.snd (Prod.snd (Prod.snd (Prod.snd (Prod.snd y))))), (), ((Prod.fst (Prod.fst (Prod.fst (Prod.snd (Prod.snd (Prod.snd (Prod.snd (Prod.snd (Prod.snd (Prod.snd y))))))))), ()), ()),
       Prod.fst (Prod.snd (Prod.snd (Prod.snd (Prod.snd (Prod.snd (Prod.snd (Prod.snd (Prod.snd y)))))))), Prod.fst (Prod.snd (Prod.snd (Prod.snd (Prod.snd (Prod.snd (Prod.snd (Prod.snd (Prod.snd (Prod.snd y))))))))), u8, ())
   else
    G 1 K26s122_1
     (((t0, (), (), (), (), IntKind.wrap IntKind.i64 (t9 + 1), ()), ()), Prod.fst (Prod.snd y), Prod.fst (Prod.snd (Prod.snd y)), Prod.fst (Prod.snd (Prod.snd (Prod.snd y))), ((), (), ()), Prod.fst (Prod.snd (Prod.snd (Prod.snd (Prod.snd (Prod.snd y))))), (), ((Prod.fst (Prod.fst (Prod.fst (Prod.snd (Prod.snd (Prod.snd (Prod.snd (Prod.snd (Prod.snd (Prod.snd y))))))))), ()), ()),
       Prod.fst (Prod.snd (Prod.snd (Prod.snd (Prod.snd (Prod.snd (Prod.snd (Prod.snd (Prod.snd y)))))))), Prod.fst (Prod.snd (Prod.snd (Prod.snd (Prod.snd (Prod.snd (Prod.snd (Prod.snd (Prod.snd (Prod.snd y))))))))), u8, h10, ())
  else none := by kernel_rfl
theorem Q26s122_4 (G : GT26s122) (f : FT26s122) (t4 : Int) (t11 : Int) (t12 : Int) (v117 : (List Int)) (h0 : Sp) (h1 : (Option Sb)) (h2 : Sp) (h4 : (Option Sb)) (h6a_0 : (Option Sb)) (h7 : (List Int)) (h8 : (List Int)) (h10 : Bool) (h12 : Int) : sseg (X26s122 f) S26s122 [.bool] O26s122 6000 some G 4 K26s122_4 ((((), ((), (t4, (t11, (t12, ()))))), ((), (((), ((), (v117, ()))), ()))), (h0, (h1, (h2, (((), ((), ())), (h4, ((), (((h6a_0, ()), ()), (h7, (h8, (u8, (h10, (((), ()), (h12, ())))))))))))))) =
  bif decide (t12 < t11) then
 bif decide (t12 < 0) then none
 else
  bif bitF BinOp.and IntKind.i64 (Int.fdiv h12 (2 ^ min (Int.toNat t12) 64)) 1 == 0 then G 4 K26s122_4 ((((), (), t4, t11, IntKind.wrap IntKind.i64 (t12 + 1), ()), (), ((), (), v117, ()), ()), h0, h1, h2, ((), (), ()), h4, (), ((h6a_0, ()), ()), h7, h8, u8, h10, ((), ()), h12, ())
  else
   bif decide (t4 ≥ 0) then Option.bind (F100 (h2, IntKind.wrap IntKind.i64 (t12 - t4), ())) fun (y : Sp × Unit) => G 4 K26s122_4 ((((), (), t12, t11, IntKind.wrap IntKind.i64 (t12 + 1), ()), (), ((), (), v117, ()), ()), h0, h1, Prod.fst y, ((), (), ()), h4, (), ((h6a_0, ()), ()), h7, h8, u8, h10, ((), ()), h12, ())
   else G 4 K26s122_4 ((((), (), t12, t11, IntKind.wrap IntKind.i64 (t12 + 1), ()), (), ((), (), v117, ()), ()), h0, h1, h2, ((), (), ()), h4, (), ((h6a_0, ()), ()), h7, h8, u8, h10, ((), ()), h12, ())
 else some ((true, ()), h0, h1, h2, (0, (), (), ()), h4, (), ((h6a_0, ()), ()), h7, h8, u8, ()) := by kernel_rfl
noncomputable def G26s122 : List (Code × Code) → denK (specAt S26s122 0) → Option (denL [.bool] × denH O26s122) := gsub (cx24) 122 (cAt Tryd.f122 []) S26s122 20 [.bool] O26s122 6000
noncomputable def cx26s122 : Ctx := X26s122 G26s122
def S26 : List Gh.Spec := []
abbrev GT26 : Type := (n : Nat) → Kept → denK (specAt S26 n) → Option (denL [tSp, (.int .i64)])
theorem E26 (G : GT26) (t0 : Se) : enter cx26s122 S26 [tSp, (.int .i64)] 6000 some G 26 [tSe] (t0, ()) =
  Option.bind (F88 (t0, 0, [], ())) fun (y : Option Sb × Int × Unit) =>
 bif Prod.fst (Prod.snd y) != 0 then some ((0, 0, ()), Prod.fst (Prod.snd y), ())
 else
  Option.bind (G26s122 Y26s122 (((0, (), (), (), (), (), (), ()), ()), (0, 0, ()), Prod.fst y, (1099511627776, -1, ()), ((), (), ()), Prod.fst y, (), ((Prod.fst y, ()), ()), List.replicate 7 0, -1 :: List.replicate 6 0, u8, ()))
   fun
    (y :
      (Bool × Unit) ×
       Sp ×
        Option Sb ×
         Sp ×
          (Nat × Unit × Unit × Unit) ×
           Option Sb × Unit × ((Option Sb × Unit) × Unit) × List Int × List Int × (Unit × Unit × Unit × Unit × Unit × Unit × Unit × Unit) × Unit) =>
   bif Nat.beq (Prod.fst (Prod.fst (Prod.snd (Prod.snd (Prod.snd (Prod.snd y)))))) 0 then Option.bind (F101 (Prod.fst (Prod.snd (Prod.snd (Prod.snd y))), ())) fun (y : Sp × Int × Unit) => some (Prod.fst y, Prod.fst (Prod.snd y), ()) else none := by kernel_rfl
noncomputable def F26 : denL [tSe] → Option (denL [tSp, (.int .i64)]) := ghost cx26s122 S26 6000 26 [tSe] [tSp, (.int .i64)]
noncomputable def C26 : Con := ⟨[tSe], [tSp, (.int .i64)], F26⟩
noncomputable def cx26 : Ctx := cx24.add 26 C26
def O28s122 : List (Nat × BSh) := [(280001, .box (.dat tSe) false), (280002, .box (.dat tSp) false), (280004, .box (.dat (.hnd 0 (.struct [tSe, (.int .i64)]))) false), (280006, .box (.dat tSp) false), (280007, .box (.dat (.int .i64)) false), (289007, .loopE 28 83 [(1, (.ptr 280001 [])), (4, (.ptr 280004 [])), (6, (.ptr 280006 [])), (7, (.ptr 280007 []))] [30] 0 [0]), (10950001, .box (.dat (.hnd 0 (.struct [tSe, (.int .i64)]))) false), (11210002, .box (.yld 289007) false), (11210003, .box (.fn 96 [(.dat (.hnd 0 (.struct [tSe, (.int .i64)])))] []) false), (11210004, .box (.dat (.arr 7 (.int .i64))) false), (11210005, .box (.dat (.arr 7 (.int .i64))) false), (11210006, .box (.fn 122 [] [(.ptr 10950001 []), (.ptr 11210004 []), (.ptr 11210006 []), (.ptr 11210005 []), (.ptr 11210003 []), (.ptr 11210002 [])]) false)]
noncomputable def Y28s122 : List (Code × Code) := [noCodes, noCodes, noCodes, noCodes, noCodes, ((cAt Tryd.f28 [1, 1, 1, 1, 0, 1, 0, 0]), (cAt Tryd.f28 [1, 1, 1, 1, 0, 1, 0, 1])), noCodes, noCodes, noCodes, noCodes, noCodes, noCodes]
def S28s122 : List Gh.Spec := [{ key := (0, 0, 0, 0), frs := [{ fn := 122, n := 119, regs := [(0, (.dat (.int .i64))), (1, (.ptr 10950001 [])), (2, (.ptr 11210004 [])), (3, (.ptr 11210006 [])), (4, (.ptr 11210005 [])), (5, (.ptr 11210003 [])), (6, (.ptr 11210002 []))], round := none, defers := [] }], heap := [(280001, .box (.dat tSe) false), (280002, .box (.dat tSp) false), (280004, .box (.dat (.hnd 0 (.struct [tSe, (.int .i64)]))) false), (280006, .box (.dat tSp) false), (280007, .box (.dat (.int .i64)) false), (289007, .loop 28 83 [(1, (.ptr 280001 [])), (4, (.ptr 280004 [])), (6, (.ptr 280006 [])), (7, (.ptr 280007 []))] [30] 0 false), (10950001, .box (.dat (.hnd 0 (.struct [tSe, (.int .i64)]))) false), (11210002, .box (.yld 289007) false), (11210003, .box (.fn 96 [(.dat (.hnd 0 (.struct [tSe, (.int .i64)])))] []) false), (11210004, .box (.dat (.arr 7 (.int .i64))) false), (11210005, .box (.dat (.arr 7 (.int .i64))) false), (11210006, .box (.fn 122 [] [(.ptr 10950001 []), (.ptr 11210004 []), (.ptr 11210006 []), (.ptr 11210005 []), (.ptr 11210003 []), (.ptr 11210002 [])]) false)], base := 20 }, { key := (123194000000000000004804566, 122, 3, 1), frs := [{ fn := 122, n := 119, regs := [(0, (.dat (.int .i64))), (1, (.ptr 10950001 [])), (2, (.ptr 11210004 [])), (3, (.ptr 11210006 [])), (8, (.ptr 201220008 [])), (9, (.dat (.int .i64)))], round := none, defers := [] }], heap := [(280001, .box (.dat tSe) false), (280002, .box (.dat tSp) false), (280004, .box (.dat (.hnd 0 (.struct [tSe, (.int .i64)]))) false), (280006, .box (.dat tSp) false), (280007, .box (.dat (.int .i64)) false), (289007, .loop 28 83 [(1, (.ptr 280001 [])), (4, (.ptr 280004 [])), (6, (.ptr 280006 [])), (7, (.ptr 280007 []))] [30] 0 false), (10950001, .box (.dat (.hnd 0 (.struct [tSe, (.int .i64)]))) false), (11210002, .box (.yld 289007) false), (11210003, .box (.fn 96 [(.dat (.hnd 0 (.struct [tSe, (.int .i64)])))] []) false), (11210004, .box (.dat (.arr 7 (.int .i64))) false), (11210005, .box (.dat (.arr 7 (.int .i64))) false), (11210006, .box (.fn 122 [] [(.ptr 10950001 []), (.ptr 11210004 []), (.ptr 11210006 []), (.ptr 11210005 []), (.ptr 11210003 []), (.ptr 11210002 [])]) false), (201220008, .box (.dat .bool) false)], base := 20 }, { key := (123194000000000000004804589, 123, 2, 1), frs := [{ fn := 123, n := 32, regs := [(0, (.yld 201229019)), (2, (.ptr 210990003 [])), (4, (.dat (.int .i64))), (11, (.dat (.int .i64))), (12, (.dat (.int .i64)))], round := none, defers := [] }, { fn := 122, n := 119, regs := [(2, (.ptr 11210004 [])), (6, (.ptr 11210002 [])), (8, (.ptr 201220008 []))], round := none, defers := [] }], heap := [(280001, .box (.dat tSe) false), (280002, .box (.dat tSp) false), (280004, .box (.dat (.hnd 0 (.struct [tSe, (.int .i64)]))) false), (280006, .box (.dat tSp) false), (280007, .box (.dat (.int .i64)) false), (289007, .loop 28 83 [(1, (.ptr 280001 [])), (4, (.ptr 280004 [])), (6, (.ptr 280006 [])), (7, (.ptr 280007 []))] [30] 0 false), (10950001, .box (.dat (.hnd 0 (.struct [tSe, (.int .i64)]))) false), (11210002, .box (.yld 289007) false), (11210003, .box (.fn 96 [(.dat (.hnd 0 (.struct [tSe, (.int .i64)])))] []) false), (11210004, .box (.dat (.arr 7 (.int .i64))) false), (11210005, .box (.dat (.arr 7 (.int .i64))) false), (11210006, .box (.fn 122 [] [(.ptr 10950001 []), (.ptr 11210004 []), (.ptr 11210006 []), (.ptr 11210005 []), (.ptr 11210003 []), (.ptr 11210002 [])]) false), (201220008, .box (.dat .bool) false), (201229019, .loop 122 119 [(1, (.ptr 10950001 [])), (8, (.ptr 201220008 []))] [100] 0 false), (210990003, .box (.dat (.int .i64)) false)], base := 20 }, { key := (123194000000000000004804566, 122, 7, 1), frs := [{ fn := 122, n := 119, regs := [(0, (.dat (.int .i64))), (1, (.ptr 10950001 [])), (2, (.ptr 11210004 [])), (3, (.ptr 11210006 [])), (8, (.ptr 201220008 [])), (9, (.dat (.int .i64))), (50, (.dat (.slice tSm))), (51, (.dat (.int .i64))), (52, (.dat (.int .i64)))], round := none, defers := [] }], heap := [(280001, .box (.dat tSe) false), (280002, .box (.dat tSp) false), (280004, .box (.dat (.hnd 0 (.struct [tSe, (.int .i64)]))) false), (280006, .box (.dat tSp) false), (280007, .box (.dat (.int .i64)) false), (289007, .loop 28 83 [(1, (.ptr 280001 [])), (4, (.ptr 280004 [])), (6, (.ptr 280006 [])), (7, (.ptr 280007 []))] [30] 0 false), (10950001, .box (.dat (.hnd 0 (.struct [tSe, (.int .i64)]))) false), (11210002, .box (.yld 289007) false), (11210003, .box (.fn 96 [(.dat (.hnd 0 (.struct [tSe, (.int .i64)])))] []) false), (11210004, .box (.dat (.arr 7 (.int .i64))) false), (11210005, .box (.dat (.arr 7 (.int .i64))) false), (11210006, .box (.fn 122 [] [(.ptr 10950001 []), (.ptr 11210004 []), (.ptr 11210006 []), (.ptr 11210005 []), (.ptr 11210003 []), (.ptr 11210002 [])]) false), (201220008, .box (.dat .bool) false)], base := 20 }, { key := (123194000000000000004904568, 28, 9, 1), frs := [{ fn := 28, n := 83, regs := [(1, (.ptr 280001 [])), (4, (.ptr 280004 [])), (6, (.ptr 280006 [])), (7, (.ptr 280007 [])), (8, (.ptr 210280008 [])), (9, (.dat (.int .i64))), (33, (.dat (.int .i64))), (34, (.dat (.int .i64)))], round := (some 289007), defers := [] }, { fn := 122, n := 119, regs := [(8, (.ptr 201220008 [])), (116, (.yld 289007)), (117, (.dat (.arr 7 (.int .i64))))], round := none, defers := [] }], heap := [(280001, .box (.dat tSe) false), (280002, .box (.dat tSp) false), (280004, .box (.dat (.hnd 0 (.struct [tSe, (.int .i64)]))) false), (280006, .box (.dat tSp) false), (280007, .box (.dat (.int .i64)) false), (289007, .loop 28 83 [(1, (.ptr 280001 [])), (4, (.ptr 280004 [])), (6, (.ptr 280006 [])), (7, (.ptr 280007 []))] [30] 0 true), (10950001, .box (.dat (.hnd 0 (.struct [tSe, (.int .i64)]))) false), (11210002, .box (.yld 289007) false), (11210003, .box (.fn 96 [(.dat (.hnd 0 (.struct [tSe, (.int .i64)])))] []) false), (11210004, .box (.dat (.arr 7 (.int .i64))) false), (11210005, .box (.dat (.arr 7 (.int .i64))) false), (11210006, .box (.fn 122 [] [(.ptr 10950001 []), (.ptr 11210004 []), (.ptr 11210006 []), (.ptr 11210005 []), (.ptr 11210003 []), (.ptr 11210002 [])]) false), (201220008, .box (.dat .bool) false), (210280008, .box (.dat (.arr 7 (.int .i64))) false)], base := 20 }]
noncomputable def K28s122_0 : Kept := kept0 (cAt Tryd.f122 []) Y28s122
noncomputable def K28s122_1 : Kept := { todos := [[.inLoop (cAt Tryd.f122 [1, 0, 1, 0, 0, 1, 0, 1, 0, 0]), .inBlock 0, .code (cAt Tryd.f122 [1, 0, 1, 0, 0, 1, 1]), .inScope (cAt Tryd.f122 [1, 0, 1, 0, 0]), .code (cAt Tryd.f122 [1, 1])]], cs := [noCodes, noCodes, noCodes, noCodes, noCodes, ((cAt Tryd.f28 [1, 1, 1, 1, 0, 1, 0, 0]), (cAt Tryd.f28 [1, 1, 1, 1, 0, 1, 0, 1])), noCodes, noCodes, noCodes, noCodes, noCodes, noCodes, noCodes] }
noncomputable def K28s122_2 : Kept := { todos := [[.inLoop (cAt Tryd.f123 [1, 1, 0, 0]), .inBlock 0], [.inRangeFunc 201229019, .inBlock 4, .code (cAt Tryd.f122 [1, 1, 1, 1, 1])]], cs := [noCodes, noCodes, noCodes, noCodes, noCodes, ((cAt Tryd.f28 [1, 1, 1, 1, 0, 1, 0, 0]), (cAt Tryd.f28 [1, 1, 1, 1, 0, 1, 0, 1])), noCodes, noCodes, noCodes, noCodes, noCodes, noCodes, noCodes, ((cAt Tryd.f122 [1, 1, 1, 1, 0, 1, 0, 0]), (cAt Tryd.f122 [1, 1, 1, 1, 0, 1, 0, 1])), noCodes] }
noncomputable def K28s122_3 : Kept := { todos := [[.inLoop (cAt Tryd.f122 [1, 0, 1, 0, 0, 1, 0, 1, 0, 0, 1, 0, 0, 1, 0, 1, 0, 0]), .inBlock 2, .code (cAt Tryd.f122 [1, 0, 1, 0, 0, 1, 0, 1, 0, 0, 1, 0, 0, 1, 1]), .inBlock 1, .code (cAt Tryd.f122 [1, 0, 1, 0, 0, 1, 0, 1, 0, 0, 1, 1]), .inLoop (cAt Tryd.f122 [1, 0, 1, 0, 0, 1, 0, 1, 0, 0]), .inBlock 0, .code (cAt Tryd.f122 [1, 0, 1, 0, 0, 1, 1]), .inScope (cAt Tryd.f122 [1, 0, 1, 0, 0]), .code (cAt Tryd.f122 [1, 1])]], cs := [noCodes, noCodes, noCodes, noCodes, noCodes, ((cAt Tryd.f28 [1, 1, 1, 1, 0, 1, 0, 0]), (cAt Tryd.f28 [1, 1, 1, 1, 0, 1, 0, 1])), noCodes, noCodes, noCodes, noCodes, noCodes, noCodes, noCodes] }
noncomputable def K28s122_4 : Kept := { todos := [[.inLoop (cAt Tryd.f28 [1, 1, 1, 1, 0, 1, 0, 1, 0, 1, 0, 1, 0, 0]), .inBlock 2, .code (cAt Tryd.f28 [1, 1, 1, 1, 0, 1, 0, 1, 0, 1, 1]), .inBlock 1], [.inRegion (oAt Tryd.f122 [1, 1, 1, 1, 1, 0]) [2, 3], .code (cAt Tryd.f122 [1, 0, 1, 0, 0, 1, 0, 1, 0, 0, 1, 0, 0, 1, 1, 1, 0, 1])]], cs := [noCodes, noCodes, noCodes, noCodes, noCodes, ((cAt Tryd.f28 [1, 1, 1, 1, 0, 1, 0, 0]), (cAt Tryd.f28 [1, 1, 1, 1, 0, 1, 0, 1])), noCodes, noCodes, noCodes, noCodes, noCodes, noCodes, noCodes, noCodes] }
noncomputable def X28s122 (f : List (Code × Code) → denK (specAt S28s122 0) → Option (denL [.bool] × denH O28s122)) : Ctx := (cx26).addS 122 (asSub S28s122 20 [.bool] O28s122 f)
abbrev GT28s122 : Type := (n : Nat) → Kept → denK (specAt S28s122 n) → Option (denL [.bool] × denH O28s122)
abbrev FT28s122 : Type := List (Code × Code) → denK (specAt S28s122 0) → Option (denL [.bool] × denH O28s122)
theorem Q28s122_0 (G : GT28s122) (f : FT28s122) (t0 : Int) (h0 : Se) (h1 : Sp) (h2 : (Option Sb)) (h3 : Sp) (h4 : Int) (h6 : (Option Sb)) (h8a_0 : (Option Sb)) (h9 : (List Int)) (h10 : (List Int)) : sseg (X28s122 f) S28s122 [.bool] O28s122 6000 some G 0 K28s122_0 (((t0, ((), ((), ((), ((), ((), ((), ()))))))), ()), (h0, (h1, (h2, (h3, (h4, (((), ((), ((), ((), ())))), (h6, ((), (((h8a_0, ()), ()), (h9, (h10, (u8, ()))))))))))))) =
  Option.bind h6 fun (y : Sb) =>
 bif decide (t0 < (↑(List.length (Prod.fst (Prod.fst y))) : Int)) then
  Option.bind h6 fun (y : Sb) =>
   bif decide (0 ≤ t0) && decide (t0 < (↑(List.length (Prod.fst (Prod.fst y))) : Int)) then G 1 K28s122_1 (((t0, (), (), (), (), Prod.fst (List.getD (Prod.fst (Prod.fst y)) (Int.toNat t0) (0, 0, ())), ()), ()), h0, h1, h2, h3, h4, ((), (), (), (), ()), h6, (), ((h8a_0, ()), ()), h9, h10, u8, false, ()) else none
 else
  bif eqD (Ty.arr 7 (Ty.int IntKind.i64)) h9 h10 then some ((true, ()), h0, h1, h2, h3, h4, (0, (), (), (), (), ()), h6, (), ((h8a_0, ()), ()), h9, h10, u8, ())
  else
   Option.bind (F96 (h8a_0, h9, ())) fun (y : Int × Unit) =>
    Option.bind h6 fun (y_1 : Sb) =>
     G 2 K28s122_2 ((((), (), -1, (↑(List.length (Prod.fst (Prod.fst y_1))) : Int), 0, ()), ((), (), (), ()), ()), h0, h1, h2, h3, h4, ((), (), (), (), ()), h6, (), ((h8a_0, ()), ()), h9, h9, u8, false, ((), (), ()), Prod.fst y, ()) := by kernel_rfl
theorem Q28s122_1 (G : GT28s122) (f : FT28s122) (t0 : Int) (t9 : Int) (h0 : Se) (h1 : Sp) (h2 : (Option Sb)) (h3 : Sp) (h4 : Int) (h6 : (Option Sb)) (h8a_0 : (Option Sb)) (h9 : (List Int)) (h10 : (List Int)) (h12 : Bool) : sseg (X28s122 f) S28s122 [.bool] O28s122 6000 some G 1 K28s122_1 (((t0, ((), ((), ((), ((), (t9, ())))))), ()), (h0, (h1, (h2, (h3, (h4, (((), ((), ((), ((), ())))), (h6, ((), (((h8a_0, ()), ()), (h9, (h10, (u8, (h12, ())))))))))))))) =
  Option.bind h6 fun (y : Sb) =>
 bif decide (0 ≤ t0) && decide (t0 < (↑(List.length (Prod.fst (Prod.fst y))) : Int)) then
  bif decide (t9 ≤ Prod.fst (Prod.snd (List.getD (Prod.fst (Prod.fst y)) (Int.toNat t0) (0, 0, ())))) then
   bif decide (0 ≤ t0) && decide (t0 < 7) then
    bif decide (Int.toNat t0 < 7) then
     Option.bind h6 fun (y : Sb) =>
      G 3 K28s122_3 (((t0, (), (), (), (), t9, Prod.fst (Prod.snd (Prod.fst y)), (↑(List.length (Prod.fst (Prod.snd (Prod.fst y)))) : Int), 0, ()), ()), h0, h1, h2, h3, h4, ((), (), (), (), ()), h6, (), ((h8a_0, ()), ()), List.set h9 (Int.toNat t0) t9, h10, u8, h12, ())
    else none
   else none
  else some ((true, ()), h0, h1, h2, h3, h4, (0, (), (), (), (), ()), h6, (), ((h8a_0, ()), ()), h9, h10, u8, ())
 else none := by kernel_rfl
theorem Q28s122_2 (G : GT28s122) (f : FT28s122) (t4 : Int) (t11 : Int) (t12 : Int) (h0 : Se) (h1 : Sp) (h2 : (Option Sb)) (h3 : Sp) (h4 : Int) (h6 : (Option Sb)) (h8a_0 : (Option Sb)) (h9 : (List Int)) (h10 : (List Int)) (h12 : Bool) (h14 : Int) : sseg (X28s122 f) S28s122 [.bool] O28s122 6000 some G 2 K28s122_2 ((((), ((), (t4, (t11, (t12, ()))))), (((), ((), ((), ()))), ())), (h0, (h1, (h2, (h3, (h4, (((), ((), ((), ((), ())))), (h6, ((), (((h8a_0, ()), ()), (h9, (h10, (u8, (h12, (((), ((), ())), (h14, ())))))))))))))))) =
  bif decide (t12 < t11) then
 bif decide (t12 < 0) then none
 else
  bif bitF BinOp.and IntKind.i64 (Int.fdiv h14 (2 ^ min (Int.toNat t12) 64)) 1 == 0 then G 2 K28s122_2 ((((), (), t4, t11, IntKind.wrap IntKind.i64 (t12 + 1), ()), ((), (), (), ()), ()), h0, h1, h2, h3, h4, ((), (), (), (), ()), h6, (), ((h8a_0, ()), ()), h9, h10, u8, h12, ((), (), ()), h14, ())
  else
   bif decide (t4 ≥ 0) then
    Option.bind h6 fun (y : Sb) =>
     Option.bind h6 fun (y_1 : Sb) =>
      Option.bind (F84 (Prod.fst (Prod.fst (Prod.snd (Prod.snd (Prod.fst y)))), Prod.fst (Prod.snd (Prod.fst (Prod.snd (Prod.snd (Prod.fst y_1))))), List.set (List.replicate 1 0) 0 (IntKind.wrap IntKind.i64 (t12 - t4)), ())) fun (y : Bool × Unit) =>
       bif Prod.fst y then some ((true, ()), h0, h1, h2, h3, h4, (0, (), (), (), (), ()), h6, (), ((h8a_0, ()), ()), h9, h10, u8, ())
       else G 2 K28s122_2 ((((), (), t12, t11, IntKind.wrap IntKind.i64 (t12 + 1), ()), ((), (), (), ()), ()), h0, h1, h2, h3, h4, ((), (), (), (), ()), h6, (), ((h8a_0, ()), ()), h9, h10, u8, h12, ((), (), ()), h14, ())
   else G 2 K28s122_2 ((((), (), t12, t11, IntKind.wrap IntKind.i64 (t12 + 1), ()), ((), (), (), ()), ()), h0, h1, h2, h3, h4, ((), (), (), (), ()), h6, (), ((h8a_0, ()), ()), h9, h10, u8, h12, ((), (), ()), h14, ())
 else G 4 K28s122_4 ((((), (), (), (), (), -1, (↑(List.length (Prod.fst h0)) : Int), 0, ()), ((), (), h9, ()), ()), h0, h1, h2, h3, h4, ((), (), (), (), ()), h6, (), ((h8a_0, ()), ()), h9, h10, u8, h12, h9, ()) := by kernel_rfl
theorem Q28s122_3 (G : GT28s122) (f : FT28s122) (t0 : Int) (t9 : Int) (t50 : (List Sm)) (t51 : Int) (t52 : Int) (h0 : Se) (h1 : Sp) (h2 : (Option Sb)) (h3 : Sp) (h4 : Int) (h6 : (Option Sb)) (h8a_0 : (Option Sb)) (h9 : (List Int)) (h10 : (List Int)) (h12 : Bool) : sseg (X28s122 f) S28s122 [.bool] O28s122 6000 some G 3 K28s122_3 (((t0, ((), ((), ((), ((), (t9, (t50, (t51, (t52, ()))))))))), ()), (h0, (h1, (h2, (h3, (h4, (((), ((), ((), ((), ())))), (h6, ((), (((h8a_0, ()), ()), (h9, (h10, (u8, (h12, ())))))))))))))) =
  bif decide (t52 < t51) then
 bif decide (0 ≤ t52) && decide (t52 < (↑(List.length t50) : Int)) then
  bif Prod.fst (Prod.snd (List.getD t50 (Int.toNat t52) (0, 0, (0, 0, ()), ()))) == t0 then
   Option.bind h6 fun (y : Sb) =>
    bif decide (t52 < 0) then none
    else
     bif bitF BinOp.and IntKind.i64 (Int.fdiv (Prod.fst (Prod.snd y)) (2 ^ min (Int.toNat t52) 64)) 1 == 0 then
      Option.bind (F120 (h9, Prod.fst (List.getD t50 (Int.toNat t52) (0, 0, (0, 0, ()), ())), t0, ())) fun (y : Int × Unit) =>
       Option.bind (F84 (Prod.fst (Prod.fst (Prod.snd (Prod.snd (List.getD t50 (Int.toNat t52) (0, 0, (0, 0, ()), ()))))), Prod.fst (Prod.snd (Prod.fst (Prod.snd (Prod.snd (List.getD t50 (Int.toNat t52) (0, 0, (0, 0, ()), ())))))), List.set (List.replicate 1 0) 0 (Prod.fst y), ())) fun (y : Bool × Unit) =>
        bif Prod.fst y then G 1 K28s122_1 (((t0, (), (), (), (), IntKind.wrap IntKind.i64 (t9 + 1), ()), ()), h0, h1, h2, h3, h4, ((), (), (), (), ()), h6, (), ((h8a_0, ()), ()), h9, h10, u8, h12, ())
        else G 3 K28s122_3 (((t0, (), (), (), (), t9, t50, t51, IntKind.wrap IntKind.i64 (t52 + 1), ()), ()), h0, h1, h2, h3, h4, ((), (), (), (), ()), h6, (), ((h8a_0, ()), ()), h9, h10, u8, h12, ())
     else G 3 K28s122_3 (((t0, (), (), (), (), t9, t50, t51, IntKind.wrap IntKind.i64 (t52 + 1), ()), ()), h0, h1, h2, h3, h4, ((), (), (), (), ()), h6, (), ((h8a_0, ()), ()), h9, h10, u8, h12, ())
  else G 3 K28s122_3 (((t0, (), (), (), (), t9, t50, t51, IntKind.wrap IntKind.i64 (t52 + 1), ()), ()), h0, h1, h2, h3, h4, ((), (), (), (), ()), h6, (), ((h8a_0, ()), ()), h9, h10, u8, h12, ())
 else none
 else
 Option.bind (f Y28s122 (((IntKind.wrap IntKind.i64 (t0 + 1), (), (), (), (), (), (), ()), ()), h0, h1, h2, h3, h4, ((), (), (), (), ()), h6, (), ((h8a_0, ()), ()), h9, h10, u8, ()))
  fun
   (y :
     (Bool × Unit) ×
      Se ×
       Sp ×
        Option Sb ×
         Sp ×
          Int ×
           (Nat × Unit × Unit × Unit × Unit × Unit) ×
            Option Sb × Unit × ((Option Sb × Unit) × Unit) × List Int × List Int × (Unit × Unit × Unit × Unit × Unit × Unit × Unit × Unit) × Unit) =>
  bif Nat.beq (Prod.fst (Prod.fst (Prod.snd (Prod.snd (Prod.snd (Prod.snd (Prod.snd (Prod.snd y)))))))) 0 then
   bif !Prod.fst (Prod.fst y) then
    some
     ((false, ()), Prod.fst (Prod.snd y), Prod.fst (Prod.snd (Prod.snd y)), Prod.fst (Prod.snd (Prod.snd (Prod.snd y))), Prod.fst (Prod.snd (Prod.snd (Prod.snd (Prod.snd y)))), Prod.fst (Prod.snd (Prod.snd (Prod.snd (Prod.snd (Prod.snd y))))), (0, (), (), (), (), ()), Prod.fst (Prod.snd (Prod.snd (Prod.snd (Prod.snd (Prod.snd (Prod.snd (Prod.snd y))))))), (),
       ((Prod.fst (Prod.fst (Prod.fst (Prod.snd (Prod.snd (Prod.snd (Prod.snd (Prod.snd (Prod.snd (Prod.snd (Prod.snd (Prod.snd y))))))))))), ()), ()), Prod.fst (Prod.snd (Prod.snd (Prod.snd (Prod.snd (Prod.snd (Prod.snd (Prod.snd (Prod.snd (Prod.snd (Prod.snd y)))))))))),
       Prod.fst (Prod.snd (Prod.snd (Prod.snd (Prod.snd (Prod.snd (Prod.snd (Prod.snd (Prod.snd (Prod.snd (Prod.snd (Prod.snd y))))))))))), u8, ())
   else
    G 1 K28s122_1
     (((t0, (), (), (), (), IntKind.wrap IntKind.i64 (t9 + 1), ()), ()), Prod.fst (Prod.snd y), Prod.fst (Prod.snd (Prod.snd y)), Prod.fst (Prod.snd (Prod.snd (Prod.snd y))), Prod.fst (Prod.snd (Prod.snd (Prod.snd (Prod.snd y)))), Prod.fst (Prod.snd (Prod.snd (Prod.snd (Prod.snd (Prod.snd y))))), ((), (), (), (), ()),
       Prod.fst (Prod.snd (Prod.snd (Prod.snd (Prod.snd (Prod.snd (Prod.snd (Prod.snd y))))))), (), ((Prod.fst (Prod.fst (Prod.fst (Prod.snd (Prod.snd (Prod.snd (Prod.snd (Prod.snd (Prod.snd (Prod.snd (Prod.snd (Prod.snd y))))))))))), ()), ()), Prod.fst (Prod.snd (Prod.snd (Prod.snd (Prod.snd (Prod.snd (Prod.snd (Prod.snd (Prod.snd (Prod.snd (Prod.snd y)))))))))),
       Prod.fst (Prod.snd (Prod.snd (Prod.snd (Prod.snd (Prod.snd (Prod.snd (Prod.snd (Prod.snd (Prod.snd (Prod.snd (Prod.snd y))))))))))), u8, h12, ())
  else none := by kernel_rfl
theorem Q28s122_4 (G : GT28s122) (f : FT28s122) (t9 : Int) (t33 : Int) (t34 : Int) (u117 : (List Int)) (h0 : Se) (h1 : Sp) (h2 : (Option Sb)) (h3 : Sp) (h4 : Int) (h6 : (Option Sb)) (h8a_0 : (Option Sb)) (h9 : (List Int)) (h10 : (List Int)) (h12 : Bool) (h13 : (List Int)) : sseg (X28s122 f) S28s122 [.bool] O28s122 6000 some G 4 K28s122_4 ((((), ((), ((), ((), ((), (t9, (t33, (t34, ())))))))), (((), ((), (u117, ()))), ())), (h0, (h1, (h2, (h3, (h4, (((), ((), ((), ((), ())))), (h6, ((), (((h8a_0, ()), ()), (h9, (h10, (u8, (h12, (h13, ()))))))))))))))) =
  bif decide (t34 < t33) then
 Option.bind (F96 (h2, h13, ())) fun (y : Int × Unit) =>
  bif decide (t34 < 0) then none
  else
   bif bitF BinOp.and IntKind.i64 (Int.fdiv (Prod.fst y) (2 ^ min (Int.toNat t34) 64)) 1 == 1 then G 4 K28s122_4 ((((), (), (), (), (), t34, t33, IntKind.wrap IntKind.i64 (t34 + 1), ()), ((), (), u117, ()), ()), h0, h1, h2, h3, h4, ((), (), (), (), ()), h6, (), ((h8a_0, ()), ()), h9, h10, u8, h12, h13, ())
   else G 4 K28s122_4 ((((), (), (), (), (), t9, t33, IntKind.wrap IntKind.i64 (t34 + 1), ()), ((), (), u117, ()), ()), h0, h1, h2, h3, h4, ((), (), (), (), ()), h6, (), ((h8a_0, ()), ()), h9, h10, u8, h12, h13, ())
 else
 bif decide (t9 < 0) then some ((true, ()), h0, h1, h2, h3, h4, (0, (), (), (), (), ()), h6, (), ((h8a_0, ()), ()), h9, h10, u8, ())
 else
  bif decide (0 ≤ h4) && decide (h4 < 7) then
   bif decide (Int.toNat h4 < 7) then
    bif decide (0 ≤ IntKind.wrap IntKind.i64 (h4 - 1)) && decide (IntKind.wrap IntKind.i64 (h4 - 1) < 7) then
     bif decide (Int.toNat (IntKind.wrap IntKind.i64 (h4 - 1)) < 7) then
      bif decide (List.getD h13 (Int.toNat h4) 0 > List.getD h13 (Int.toNat (IntKind.wrap IntKind.i64 (h4 - 1))) 0) then
       bif decide ((if IntKind.wrap IntKind.i64 (t9 + Prod.fst (Prod.fst (Prod.snd (Prod.snd h0)))) > h4 then IntKind.wrap IntKind.i64 (t9 + Prod.fst (Prod.fst (Prod.snd (Prod.snd h0)))) else h4) ≤ IntKind.wrap IntKind.i64 (t9 + Prod.fst (Prod.snd (Prod.fst (Prod.snd (Prod.snd h0)))))) then
        Option.bind (F100 (h3, if IntKind.wrap IntKind.i64 (t9 + Prod.fst (Prod.fst (Prod.snd (Prod.snd h0)))) > h4 then IntKind.wrap IntKind.i64 (t9 + Prod.fst (Prod.fst (Prod.snd (Prod.snd h0)))) else h4, ())) fun (y : Sp × Unit) =>
         Option.bind (F100 (Prod.fst y, IntKind.wrap IntKind.i64 (t9 + Prod.fst (Prod.snd (Prod.fst (Prod.snd (Prod.snd h0))))), ())) fun (y : Sp × Unit) => some ((true, ()), h0, h1, h2, Prod.fst y, h4, (0, (), (), (), (), ()), h6, (), ((h8a_0, ()), ()), h9, h10, u8, ())
       else some ((true, ()), h0, h1, h2, h3, h4, (0, (), (), (), (), ()), h6, (), ((h8a_0, ()), ()), h9, h10, u8, ())
      else
       bif decide ((if IntKind.wrap IntKind.i64 (t9 + Prod.fst (Prod.fst (Prod.snd (Prod.snd h0)))) > IntKind.wrap IntKind.i64 (h4 + 1) then IntKind.wrap IntKind.i64 (t9 + Prod.fst (Prod.fst (Prod.snd (Prod.snd h0)))) else IntKind.wrap IntKind.i64 (h4 + 1)) ≤ IntKind.wrap IntKind.i64 (t9 + Prod.fst (Prod.snd (Prod.fst (Prod.snd (Prod.snd h0)))))) then
        Option.bind (F100 (h3, if IntKind.wrap IntKind.i64 (t9 + Prod.fst (Prod.fst (Prod.snd (Prod.snd h0)))) > IntKind.wrap IntKind.i64 (h4 + 1) then IntKind.wrap IntKind.i64 (t9 + Prod.fst (Prod.fst (Prod.snd (Prod.snd h0)))) else IntKind.wrap IntKind.i64 (h4 + 1), ())) fun (y : Sp × Unit) =>
         Option.bind (F100 (Prod.fst y, IntKind.wrap IntKind.i64 (t9 + Prod.fst (Prod.snd (Prod.fst (Prod.snd (Prod.snd h0))))), ())) fun (y : Sp × Unit) => some ((true, ()), h0, h1, h2, Prod.fst y, h4, (0, (), (), (), (), ()), h6, (), ((h8a_0, ()), ()), h9, h10, u8, ())
       else some ((true, ()), h0, h1, h2, h3, h4, (0, (), (), (), (), ()), h6, (), ((h8a_0, ()), ()), h9, h10, u8, ())
     else none
    else none
   else none
  else none := by kernel_rfl
noncomputable def G28s122 : List (Code × Code) → denK (specAt S28s122 0) → Option (denL [.bool] × denH O28s122) := gsub (cx26) 122 (cAt Tryd.f122 []) S28s122 20 [.bool] O28s122 6000
noncomputable def cx28s122 : Ctx := X28s122 G28s122
def S28 : List Gh.Spec := []
abbrev GT28 : Type := (n : Nat) → Kept → denK (specAt S28 n) → Option (denL [tSp, (.int .i64)])
theorem E28 (G : GT28) (t0 : Se) : enter cx28s122 S28 [tSp, (.int .i64)] 6000 some G 28 [tSe] (t0, ()) =
  Option.bind (F88 (t0, 0, [], ())) fun (y : Option Sb × Int × Unit) =>
 bif Prod.fst (Prod.snd y) != 0 then some ((0, 0, ()), Prod.fst (Prod.snd y), ())
 else
  Option.bind (G28s122 Y28s122 (((0, (), (), (), (), (), (), ()), ()), t0, (0, 0, ()), Prod.fst y, (1099511627776, -1, ()), IntKind.wrap IntKind.i64 ((↑(List.length (Prod.fst t0)) : Int) - 1), ((), (), (), (), ()), Prod.fst y, (), ((Prod.fst y, ()), ()), List.replicate 7 0, -1 :: List.replicate 6 0, u8, ()))
   fun
    (y :
      (Bool × Unit) ×
       Se ×
        Sp ×
         Option Sb ×
          Sp ×
           Int ×
            (Nat × Unit × Unit × Unit × Unit × Unit) ×
             Option Sb × Unit × ((Option Sb × Unit) × Unit) × List Int × List Int × (Unit × Unit × Unit × Unit × Unit × Unit × Unit × Unit) × Unit) =>
   bif Nat.beq (Prod.fst (Prod.fst (Prod.snd (Prod.snd (Prod.snd (Prod.snd (Prod.snd (Prod.snd y)))))))) 0 then Option.bind (F101 (Prod.fst (Prod.snd (Prod.snd (Prod.snd (Prod.snd y)))), ())) fun (y : Sp × Int × Unit) => some (Prod.fst y, Prod.fst (Prod.snd y), ()) else none := by kernel_rfl
noncomputable def F28 : denL [tSe] → Option (denL [tSp, (.int .i64)]) := ghost cx28s122 S28 6000 28 [tSe] [tSp, (.int .i64)]
noncomputable def C28 : Con := ⟨[tSe], [tSp, (.int .i64)], F28⟩
noncomputable def cx28 : Ctx := cx26.add 28 C28
end Go.Proofs.YtkbephbhajplhaaDoor
