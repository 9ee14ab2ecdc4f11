/- What the ghost comes to: wreck. Conditions: none (equations, each by computation). -/
import Derived.Test.YtkbephbhajplhaaDoorCyD
namespace Go.Proofs.YtkbephbhajplhaaDoor
open Go Go.Gh Go.Proofs
def O30s122v2 : List (Nat × BSh) := [(300003, .box (.dat tSe) false), (300004, .box (.dat tSp) false), (300011, .box (.fn 126 [] []) false), (300012, .box (.dat (.int .i64)) false), (309010, .loopE 30 73 [(3, (.ptr 300003 [])), (4, (.ptr 300004 [])), (11, (.ptr 300011 [])), (12, (.ptr 300012 []))] [37] 0 [0]), (10950001, .box (.dat (.hnd 0 (.struct [tSe, (.int .i64)]))) false), (11210002, .box (.yld 309010) false), (11210003, .box (.fn 96 [(.dat (.hnd 0 (.struct [tSe, (.int .i64)])))] []) false), (11210004, .box (.dat (.arr 7 (.int .i64))) false), (11210005, .box (.dat (.arr 7 (.int .i64))) false), (11210006, .box (.fn 122 [] [(.ptr 10950001 []), (.ptr 11210004 []), (.ptr 11210006 []), (.ptr 11210005 []), (.ptr 11210003 []), (.ptr 11210002 [])]) false)]
noncomputable def Y30s122v2 : List (Code × Code) := [noCodes, noCodes, noCodes, noCodes, ((cAt Tryd.f30 [1, 1, 1, 1, 1, 1, 0, 1, 0, 0]), (cAt Tryd.f30 [1, 1, 1, 1, 1, 1, 0, 1, 0, 1])), noCodes, noCodes, noCodes, noCodes, noCodes, noCodes]
def S30s122v2 : List Gh.Spec := [{ key := (0, 0, 0, 0), frs := [{ fn := 122, n := 119, regs := [(0, (.dat (.int .i64))), (1, (.ptr 10950001 [])), (2, (.ptr 11210004 [])), (3, (.ptr 11210006 [])), (4, (.ptr 11210005 [])), (5, (.ptr 11210003 [])), (6, (.ptr 11210002 []))], round := none, defers := [] }], heap := [(300003, .box (.dat tSe) false), (300004, .box (.dat tSp) false), (300011, .box (.fn 126 [] []) false), (300012, .box (.dat (.int .i64)) false), (309010, .loop 30 73 [(3, (.ptr 300003 [])), (4, (.ptr 300004 [])), (11, (.ptr 300011 [])), (12, (.ptr 300012 []))] [37] 0 false), (10950001, .box (.dat (.hnd 0 (.struct [tSe, (.int .i64)]))) false), (11210002, .box (.yld 309010) false), (11210003, .box (.fn 96 [(.dat (.hnd 0 (.struct [tSe, (.int .i64)])))] []) false), (11210004, .box (.dat (.arr 7 (.int .i64))) false), (11210005, .box (.dat (.arr 7 (.int .i64))) false), (11210006, .box (.fn 122 [] [(.ptr 10950001 []), (.ptr 11210004 []), (.ptr 11210006 []), (.ptr 11210005 []), (.ptr 11210003 []), (.ptr 11210002 [])]) false)], base := 60 }, { key := (124302872000000000004847812008, 122, 3, 1), frs := [{ fn := 122, n := 119, regs := [(0, (.dat (.int .i64))), (1, (.ptr 10950001 [])), (2, (.ptr 11210004 [])), (3, (.ptr 11210006 [])), (8, (.ptr 601220008 [])), (9, (.dat (.int .i64)))], round := none, defers := [] }], heap := [(300003, .box (.dat tSe) false), (300004, .box (.dat tSp) false), (300011, .box (.fn 126 [] []) false), (300012, .box (.dat (.int .i64)) false), (309010, .loop 30 73 [(3, (.ptr 300003 [])), (4, (.ptr 300004 [])), (11, (.ptr 300011 [])), (12, (.ptr 300012 []))] [37] 0 false), (10950001, .box (.dat (.hnd 0 (.struct [tSe, (.int .i64)]))) false), (11210002, .box (.yld 309010) false), (11210003, .box (.fn 96 [(.dat (.hnd 0 (.struct [tSe, (.int .i64)])))] []) false), (11210004, .box (.dat (.arr 7 (.int .i64))) false), (11210005, .box (.dat (.arr 7 (.int .i64))) false), (11210006, .box (.fn 122 [] [(.ptr 10950001 []), (.ptr 11210004 []), (.ptr 11210006 []), (.ptr 11210005 []), (.ptr 11210003 []), (.ptr 11210002 [])]) false), (601220008, .box (.dat .bool) false)], base := 60 }, { key := (124302872000000000004847812031, 123, 2, 1), frs := [{ fn := 123, n := 32, regs := [(0, (.yld 601229019)), (2, (.ptr 610990003 [])), (4, (.dat (.int .i64))), (11, (.dat (.int .i64))), (12, (.dat (.int .i64)))], round := none, defers := [] }, { fn := 122, n := 119, regs := [(2, (.ptr 11210004 [])), (6, (.ptr 11210002 [])), (8, (.ptr 601220008 []))], round := none, defers := [] }], heap := [(300003, .box (.dat tSe) false), (300004, .box (.dat tSp) false), (300011, .box (.fn 126 [] []) false), (300012, .box (.dat (.int .i64)) false), (309010, .loop 30 73 [(3, (.ptr 300003 [])), (4, (.ptr 300004 [])), (11, (.ptr 300011 [])), (12, (.ptr 300012 []))] [37] 0 false), (10950001, .box (.dat (.hnd 0 (.struct [tSe, (.int .i64)]))) false), (11210002, .box (.yld 309010) false), (11210003, .box (.fn 96 [(.dat (.hnd 0 (.struct [tSe, (.int .i64)])))] []) false), (11210004, .box (.dat (.arr 7 (.int .i64))) false), (11210005, .box (.dat (.arr 7 (.int .i64))) false), (11210006, .box (.fn 122 [] [(.ptr 10950001 []), (.ptr 11210004 []), (.ptr 11210006 []), (.ptr 11210005 []), (.ptr 11210003 []), (.ptr 11210002 [])]) false), (601220008, .box (.dat .bool) false), (601229019, .loop 122 119 [(1, (.ptr 10950001 [])), (8, (.ptr 601220008 []))] [100] 0 false), (610990003, .box (.dat (.int .i64)) false)], base := 60 }, { key := (124302872000000000004847812008, 122, 7, 1), frs := [{ fn := 122, n := 119, regs := [(0, (.dat (.int .i64))), (1, (.ptr 10950001 [])), (2, (.ptr 11210004 [])), (3, (.ptr 11210006 [])), (8, (.ptr 601220008 [])), (9, (.dat (.int .i64))), (50, (.dat (.slice tSm))), (51, (.dat (.int .i64))), (52, (.dat (.int .i64)))], round := none, defers := [] }], heap := [(300003, .box (.dat tSe) false), (300004, .box (.dat tSp) false), (300011, .box (.fn 126 [] []) false), (300012, .box (.dat (.int .i64)) false), (309010, .loop 30 73 [(3, (.ptr 300003 [])), (4, (.ptr 300004 [])), (11, (.ptr 300011 [])), (12, (.ptr 300012 []))] [37] 0 false), (10950001, .box (.dat (.hnd 0 (.struct [tSe, (.int .i64)]))) false), (11210002, .box (.yld 309010) false), (11210003, .box (.fn 96 [(.dat (.hnd 0 (.struct [tSe, (.int .i64)])))] []) false), (11210004, .box (.dat (.arr 7 (.int .i64))) false), (11210005, .box (.dat (.arr 7 (.int .i64))) false), (11210006, .box (.fn 122 [] [(.ptr 10950001 []), (.ptr 11210004 []), (.ptr 11210006 []), (.ptr 11210005 []), (.ptr 11210003 []), (.ptr 11210002 [])]) false), (601220008, .box (.dat .bool) false)], base := 60 }, { key := (124302872000000000004847912010, 30, 12, 1), frs := [{ fn := 30, n := 73, regs := [(4, (.ptr 300004 [])), (11, (.ptr 300011 [])), (12, (.ptr 300012 [])), (14, (.dat (.int .i64))), (41, (.dat (.slice (.int .i64)))), (42, (.dat (.int .i64))), (43, (.dat (.int .i64)))], round := (some 309010), defers := [] }, { fn := 122, n := 119, regs := [(8, (.ptr 601220008 [])), (116, (.yld 309010)), (117, (.dat (.arr 7 (.int .i64))))], round := none, defers := [] }], heap := [(300003, .box (.dat tSe) false), (300004, .box (.dat tSp) false), (300011, .box (.fn 126 [] []) false), (300012, .box (.dat (.int .i64)) false), (309010, .loop 30 73 [(3, (.ptr 300003 [])), (4, (.ptr 300004 [])), (11, (.ptr 300011 [])), (12, (.ptr 300012 []))] [37] 0 true), (10950001, .box (.dat (.hnd 0 (.struct [tSe, (.int .i64)]))) false), (11210002, .box (.yld 309010) false), (11210003, .box (.fn 96 [(.dat (.hnd 0 (.struct [tSe, (.int .i64)])))] []) false), (11210004, .box (.dat (.arr 7 (.int .i64))) false), (11210005, .box (.dat (.arr 7 (.int .i64))) false), (11210006, .box (.fn 122 [] [(.ptr 10950001 []), (.ptr 11210004 []), (.ptr 11210006 []), (.ptr 11210005 []), (.ptr 11210003 []), (.ptr 11210002 [])]) false), (601220008, .box (.dat .bool) false)], base := 60 }]
noncomputable def K30s122v2_0 : Kept := kept0 (cAt Tryd.f122 []) Y30s122v2
noncomputable def K30s122v2_1 : Kept := { todos := [[.inLoop (cAt Tryd.f122 [1, 0, 1, 0, 0, 1, 0, 1, 0, 0]), .inBlock 0, .code (cAt Tryd.f122 [1, 0, 1, 0, 0, 1, 1]), .inScope (cAt Tryd.f122 [1, 0, 1, 0, 0]), .code (cAt Tryd.f122 [1, 1])]], cs := [noCodes, noCodes, noCodes, noCodes, ((cAt Tryd.f30 [1, 1, 1, 1, 1, 1, 0, 1, 0, 0]), (cAt Tryd.f30 [1, 1, 1, 1, 1, 1, 0, 1, 0, 1])), noCodes, noCodes, noCodes, noCodes, noCodes, noCodes, noCodes] }
noncomputable def K30s122v2_2 : Kept := { todos := [[.inLoop (cAt Tryd.f123 [1, 1, 0, 0]), .inBlock 0], [.inRangeFunc 601229019, .inBlock 4, .code (cAt Tryd.f122 [1, 1, 1, 1, 1])]], cs := [noCodes, noCodes, noCodes, noCodes, ((cAt Tryd.f30 [1, 1, 1, 1, 1, 1, 0, 1, 0, 0]), (cAt Tryd.f30 [1, 1, 1, 1, 1, 1, 0, 1, 0, 1])), noCodes, noCodes, noCodes, noCodes, noCodes, noCodes, noCodes, ((cAt Tryd.f122 [1, 1, 1, 1, 0, 1, 0, 0]), (cAt Tryd.f122 [1, 1, 1, 1, 0, 1, 0, 1])), noCodes] }
noncomputable def K30s122v2_3 : Kept := { todos := [[.inLoop (cAt Tryd.f122 [1, 0, 1, 0, 0, 1, 0, 1, 0, 0, 1, 0, 0, 1, 0, 1, 0, 0]), .inBlock 2, .code (cAt Tryd.f122 [1, 0, 1, 0, 0, 1, 0, 1, 0, 0, 1, 0, 0, 1, 1]), .inBlock 1, .code (cAt Tryd.f122 [1, 0, 1, 0, 0, 1, 0, 1, 0, 0, 1, 1]), .inLoop (cAt Tryd.f122 [1, 0, 1, 0, 0, 1, 0, 1, 0, 0]), .inBlock 0, .code (cAt Tryd.f122 [1, 0, 1, 0, 0, 1, 1]), .inScope (cAt Tryd.f122 [1, 0, 1, 0, 0]), .code (cAt Tryd.f122 [1, 1])]], cs := [noCodes, noCodes, noCodes, noCodes, ((cAt Tryd.f30 [1, 1, 1, 1, 1, 1, 0, 1, 0, 0]), (cAt Tryd.f30 [1, 1, 1, 1, 1, 1, 0, 1, 0, 1])), noCodes, noCodes, noCodes, noCodes, noCodes, noCodes, noCodes] }
noncomputable def K30s122v2_4 : Kept := { todos := [[.inLoop (cAt Tryd.f30 [1, 1, 1, 1, 1, 1, 0, 1, 0, 1, 0, 1, 1, 0, 0]), .inBlock 2, .inBlock 1], [.inRegion (oAt Tryd.f122 [1, 1, 1, 1, 1, 0]) [2, 3], .code (cAt Tryd.f122 [1, 0, 1, 0, 0, 1, 0, 1, 0, 0, 1, 0, 0, 1, 1, 1, 0, 1])]], cs := [noCodes, noCodes, noCodes, noCodes, ((cAt Tryd.f30 [1, 1, 1, 1, 1, 1, 0, 1, 0, 0]), (cAt Tryd.f30 [1, 1, 1, 1, 1, 1, 0, 1, 0, 1])), noCodes, noCodes, noCodes, noCodes, noCodes, noCodes, noCodes] }
noncomputable def X30s122v2 (f : List (Code × Code) → denK (specAt S30s122v2 0) → Option (denL [.bool] × denH O30s122v2)) : Ctx := (cx28).addS 122 (asSub S30s122v2 60 [.bool] O30s122v2 f)
abbrev GT30s122v2 : Type := (n : Nat) → Kept → denK (specAt S30s122v2 n) → Option (denL [.bool] × denH O30s122v2)
abbrev FT30s122v2 : Type := List (Code × Code) → denK (specAt S30s122v2 0) → Option (denL [.bool] × denH O30s122v2)
theorem Q30s122v2_0 (G : GT30s122v2) (f : FT30s122v2) (t0 : Int) (h0 : Se) (h1 : Sp) (h3 : Int) (h5 : (Option Sb)) (h7a_0 : (Option Sb)) (h8 : (List Int)) (h9 : (List Int)) : sseg (X30s122v2 f) S30s122v2 [.bool] O30s122v2 6000 some G 0 K30s122v2_0 (((t0, ((), ((), ((), ((), ((), ((), ()))))))), ()), (h0, (h1, (((), ()), (h3, (((), ((), ((), ((), ())))), (h5, ((), (((h7a_0, ()), ()), (h8, (h9, (u8, ())))))))))))) =
  Option.bind h5 fun (y : Sb) =>
 bif decide (t0 < (↑(List.length (Prod.fst (Prod.fst y))) : Int)) then
  Option.bind h5 fun (y : Sb) =>
   bif decide (0 ≤ t0) && decide (t0 < (↑(List.length (Prod.fst (Prod.fst y))) : Int)) then G 1 K30s122v2_1 (((t0, (), (), (), (), Prod.fst (List.getD (Prod.fst (Prod.fst y)) (Int.toNat t0) (0, 0, ())), ()), ()), h0, h1, ((), ()), h3, ((), (), (), (), ()), h5, (), ((h7a_0, ()), ()), h8, h9, u8, false, ()) else none
 else
  bif eqD (Ty.arr 7 (Ty.int IntKind.i64)) h8 h9 then some ((true, ()), h0, h1, ((), ()), h3, (0, (), (), (), (), ()), h5, (), ((h7a_0, ()), ()), h8, h9, u8, ())
  else
   Option.bind (F96 (h7a_0, h8, ())) fun (y : Int × Unit) =>
    Option.bind h5 fun (y_1 : Sb) =>
     G 2 K30s122v2_2 ((((), (), -1, (↑(List.length (Prod.fst (Prod.fst y_1))) : Int), 0, ()), ((), (), (), ()), ()), h0, h1, ((), ()), h3, ((), (), (), (), ()), h5, (), ((h7a_0, ()), ()), h8, h8, u8, false, ((), (), ()), Prod.fst y, ()) := by kernel_rfl
theorem Q30s122v2_1 (G : GT30s122v2) (f : FT30s122v2) (t0 : Int) (t9 : Int) (h0 : Se) (h1 : Sp) (h3 : Int) (h5 : (Option Sb)) (h7a_0 : (Option Sb)) (h8 : (List Int)) (h9 : (List Int)) (h11 : Bool) : sseg (X30s122v2 f) S30s122v2 [.bool] O30s122v2 6000 some G 1 K30s122v2_1 (((t0, ((), ((), ((), ((), (t9, ())))))), ()), (h0, (h1, (((), ()), (h3, (((), ((), ((), ((), ())))), (h5, ((), (((h7a_0, ()), ()), (h8, (h9, (u8, (h11, ()))))))))))))) =
  Option.bind h5 fun (y : Sb) =>
 bif decide (0 ≤ t0) && decide (t0 < (↑(List.length (Prod.fst (Prod.fst y))) : Int)) then
  bif decide (t9 ≤ Prod.fst (Prod.snd (List.getD (Prod.fst (Prod.fst y)) (Int.toNat t0) (0, 0, ())))) then
   bif decide (0 ≤ t0) && decide (t0 < 7) then
    bif decide (Int.toNat t0 < 7) then
     Option.bind h5 fun (y : Sb) =>
      G 3 K30s122v2_3 (((t0, (), (), (), (), t9, Prod.fst (Prod.snd (Prod.fst y)), (↑(List.length (Prod.fst (Prod.snd (Prod.fst y)))) : Int), 0, ()), ()), h0, h1, ((), ()), h3, ((), (), (), (), ()), h5, (), ((h7a_0, ()), ()), List.set h8 (Int.toNat t0) t9, h9, u8, h11, ())
    else none
   else none
  else some ((true, ()), h0, h1, ((), ()), h3, (0, (), (), (), (), ()), h5, (), ((h7a_0, ()), ()), h8, h9, u8, ())
 else none := by kernel_rfl
theorem Q30s122v2_2 (G : GT30s122v2) (f : FT30s122v2) (t4 : Int) (t11 : Int) (t12 : Int) (h0 : Se) (h1 : Sp) (h3 : Int) (h5 : (Option Sb)) (h7a_0 : (Option Sb)) (h8 : (List Int)) (h9 : (List Int)) (h11 : Bool) (h13 : Int) : sseg (X30s122v2 f) S30s122v2 [.bool] O30s122v2 6000 some G 2 K30s122v2_2 ((((), ((), (t4, (t11, (t12, ()))))), (((), ((), ((), ()))), ())), (h0, (h1, (((), ()), (h3, (((), ((), ((), ((), ())))), (h5, ((), (((h7a_0, ()), ()), (h8, (h9, (u8, (h11, (((), ((), ())), (h13, ()))))))))))))))) =
  bif decide (t12 < t11) then
 bif decide (t12 < 0) then none
 else
  bif bitF BinOp.and IntKind.i64 (Int.fdiv h13 (2 ^ min (Int.toNat t12) 64)) 1 == 0 then G 2 K30s122v2_2 ((((), (), t4, t11, IntKind.wrap IntKind.i64 (t12 + 1), ()), ((), (), (), ()), ()), h0, h1, ((), ()), h3, ((), (), (), (), ()), h5, (), ((h7a_0, ()), ()), h8, h9, u8, h11, ((), (), ()), h13, ())
  else
   bif decide (t4 ≥ 0) then
    Option.bind h5 fun (y : Sb) =>
     Option.bind h5 fun (y_1 : Sb) =>
      Option.bind (F84 (Prod.fst (Prod.fst (Prod.snd (Prod.snd (Prod.fst y)))), Prod.fst (Prod.snd (Prod.fst (Prod.snd (Prod.snd (Prod.fst y_1))))), List.set (List.replicate 1 0) 0 (IntKind.wrap IntKind.i64 (t12 - t4)), ())) fun (y : Bool × Unit) =>
       bif Prod.fst y then some ((true, ()), h0, h1, ((), ()), h3, (0, (), (), (), (), ()), h5, (), ((h7a_0, ()), ()), h8, h9, u8, ())
       else G 2 K30s122v2_2 ((((), (), t12, t11, IntKind.wrap IntKind.i64 (t12 + 1), ()), ((), (), (), ()), ()), h0, h1, ((), ()), h3, ((), (), (), (), ()), h5, (), ((h7a_0, ()), ()), h8, h9, u8, h11, ((), (), ()), h13, ())
   else G 2 K30s122v2_2 ((((), (), t12, t11, IntKind.wrap IntKind.i64 (t12 + 1), ()), ((), (), (), ()), ()), h0, h1, ((), ()), h3, ((), (), (), (), ()), h5, (), ((h7a_0, ()), ()), h8, h9, u8, h11, ((), (), ()), h13, ())
 else
 bif decide (0 ≤ (↑(List.length (Prod.fst h0)) : Int)) && decide ((↑(List.length (Prod.fst h0)) : Int) ≤ 7) then
  G 4 K30s122v2_4 ((((), (), (), -1, List.take (Int.toNat (↑(List.length (Prod.fst h0)) : Int)) h8, (↑(List.length (List.take (Int.toNat (↑(List.length (Prod.fst h0)) : Int)) h8)) : Int), 0, ()), ((), (), h8, ()), ()), h0, h1, ((), ()), h3, ((), (), (), (), ()), h5, (), ((h7a_0, ()), ()), h8, h9, u8, h11, ())
 else none := by kernel_rfl
theorem Q30s122v2_3 (G : GT30s122v2) (f : FT30s122v2) (t0 : Int) (t9 : Int) (t50 : (List Sm)) (t51 : Int) (t52 : Int) (h0 : Se) (h1 : Sp) (h3 : Int) (h5 : (Option Sb)) (h7a_0 : (Option Sb)) (h8 : (List Int)) (h9 : (List Int)) (h11 : Bool) : sseg (X30s122v2 f) S30s122v2 [.bool] O30s122v2 6000 some G 3 K30s122v2_3 (((t0, ((), ((), ((), ((), (t9, (t50, (t51, (t52, ()))))))))), ()), (h0, (h1, (((), ()), (h3, (((), ((), ((), ((), ())))), (h5, ((), (((h7a_0, ()), ()), (h8, (h9, (u8, (h11, ()))))))))))))) =
  bif decide (t52 < t51) then
 bif decide (0 ≤ t52) && decide (t52 < (↑(List.length t50) : Int)) then
  bif Prod.fst (Prod.snd (List.getD t50 (Int.toNat t52) (0, 0, (0, 0, ()), ()))) == t0 then
   Option.bind h5 fun (y : Sb) =>
    bif decide (t52 < 0) then none
    else
     bif bitF BinOp.and IntKind.i64 (Int.fdiv (Prod.fst (Prod.snd y)) (2 ^ min (Int.toNat t52) 64)) 1 == 0 then
      Option.bind (F120 (h8, Prod.fst (List.getD t50 (Int.toNat t52) (0, 0, (0, 0, ()), ())), t0, ())) fun (y : Int × Unit) =>
       Option.bind (F84 (Prod.fst (Prod.fst (Prod.snd (Prod.snd (List.getD t50 (Int.toNat t52) (0, 0, (0, 0, ()), ()))))), Prod.fst (Prod.snd (Prod.fst (Prod.snd (Prod.snd (List.getD t50 (Int.toNat t52) (0, 0, (0, 0, ()), ())))))), List.set (List.replicate 1 0) 0 (Prod.fst y), ())) fun (y : Bool × Unit) =>
        bif Prod.fst y then G 1 K30s122v2_1 (((t0, (), (), (), (), IntKind.wrap IntKind.i64 (t9 + 1), ()), ()), h0, h1, ((), ()), h3, ((), (), (), (), ()), h5, (), ((h7a_0, ()), ()), h8, h9, u8, h11, ())
        else G 3 K30s122v2_3 (((t0, (), (), (), (), t9, t50, t51, IntKind.wrap IntKind.i64 (t52 + 1), ()), ()), h0, h1, ((), ()), h3, ((), (), (), (), ()), h5, (), ((h7a_0, ()), ()), h8, h9, u8, h11, ())
     else G 3 K30s122v2_3 (((t0, (), (), (), (), t9, t50, t51, IntKind.wrap IntKind.i64 (t52 + 1), ()), ()), h0, h1, ((), ()), h3, ((), (), (), (), ()), h5, (), ((h7a_0, ()), ()), h8, h9, u8, h11, ())
  else G 3 K30s122v2_3 (((t0, (), (), (), (), t9, t50, t51, IntKind.wrap IntKind.i64 (t52 + 1), ()), ()), h0, h1, ((), ()), h3, ((), (), (), (), ()), h5, (), ((h7a_0, ()), ()), h8, h9, u8, h11, ())
 else none
 else
 Option.bind (f Y30s122v2 (((IntKind.wrap IntKind.i64 (t0 + 1), (), (), (), (), (), (), ()), ()), h0, h1, ((), ()), h3, ((), (), (), (), ()), h5, (), ((h7a_0, ()), ()), h8, h9, u8, ()))
  fun
   (y :
     (Bool × Unit) ×
      Se ×
       Sp ×
        (Unit × Unit) ×
         Int ×
          (Nat × Unit × Unit × Unit × Unit × Unit) ×
           Option Sb × Unit × ((Option Sb × Unit) × Unit) × List Int × List Int × (Unit × Unit × Unit × Unit × Unit × Unit × Unit × Unit) × Unit) =>
  bif Nat.beq (Prod.fst (Prod.fst (Prod.snd (Prod.snd (Prod.snd (Prod.snd (Prod.snd y))))))) 0 then
   bif !Prod.fst (Prod.fst y) then
    some
     ((false, ()), Prod.fst (Prod.snd y), Prod.fst (Prod.snd (Prod.snd y)), ((), ()), Prod.fst (Prod.snd (Prod.snd (Prod.snd (Prod.snd y)))), (0, (), (), (), (), ()), Prod.fst (Prod.snd (Prod.snd (Prod.snd (Prod.snd (Prod.snd (Prod.snd y)))))), (), ((Prod.fst (Prod.fst (Prod.fst (Prod.snd (Prod.snd (Prod.snd (Prod.snd (Prod.snd (Prod.snd (Prod.snd (Prod.snd y)))))))))), ()), ()),
       Prod.fst (Prod.snd (Prod.snd (Prod.snd (Prod.snd (Prod.snd (Prod.snd (Prod.snd (Prod.snd (Prod.snd y))))))))), Prod.fst (Prod.snd (Prod.snd (Prod.snd (Prod.snd (Prod.snd (Prod.snd (Prod.snd (Prod.snd (Prod.snd (Prod.snd y)))))))))), u8, ())
   else
    G 1 K30s122v2_1
     (((t0, (), (), (), (), IntKind.wrap IntKind.i64 (t9 + 1), ()), ()), Prod.fst (Prod.snd y), Prod.fst (Prod.snd (Prod.snd y)), ((), ()), Prod.fst (Prod.snd (Prod.snd (Prod.snd (Prod.snd y)))), ((), (), (), (), ()), Prod.fst (Prod.snd (Prod.snd (Prod.snd (Prod.snd (Prod.snd (Prod.snd y)))))), (),
       ((Prod.fst (Prod.fst (Prod.fst (Prod.snd (Prod.snd (Prod.snd (Prod.snd (Prod.snd (Prod.snd (Prod.snd (Prod.snd y)))))))))), ()), ()), Prod.fst (Prod.snd (Prod.snd (Prod.snd (Prod.snd (Prod.snd (Prod.snd (Prod.snd (Prod.snd (Prod.snd y))))))))), Prod.fst (Prod.snd (Prod.snd (Prod.snd (Prod.snd (Prod.snd (Prod.snd (Prod.snd (Prod.snd (Prod.snd (Prod.snd y)))))))))),
       u8, h11, ())
  else none := by kernel_rfl
theorem Q30s122v2_4 (G : GT30s122v2) (f : FT30s122v2) (t14 : Int) (t41 : (List Int)) (t42 : Int) (t43 : Int) (u117 : (List Int)) (h0 : Se) (h1 : Sp) (h3 : Int) (h5 : (Option Sb)) (h7a_0 : (Option Sb)) (h8 : (List Int)) (h9 : (List Int)) (h11 : Bool) : sseg (X30s122v2 f) S30s122v2 [.bool] O30s122v2 6000 some G 4 K30s122v2_4 ((((), ((), ((), (t14, (t41, (t42, (t43, ()))))))), (((), ((), (u117, ()))), ())), (h0, (h1, (((), ()), (h3, (((), ((), ((), ((), ())))), (h5, ((), (((h7a_0, ()), ()), (h8, (h9, (u8, (h11, ()))))))))))))) =
  bif decide (t43 < t42) then
 bif decide (0 ≤ t43) && decide (t43 < (↑(List.length t41) : Int)) then
  Option.bind (F84 (Prod.fst h1, Prod.fst (Prod.snd h1), List.set (List.replicate 1 0) 0 (List.getD t41 (Int.toNat t43) 0), ())) fun (y : Bool × Unit) =>
   bif !Prod.fst y then
    bif decide (t14 > List.getD t41 (Int.toNat t43) 0) then
     bif decide (t43 < 0) then none else G 4 K30s122v2_4 ((((), (), (), List.getD t41 (Int.toNat t43) 0, t41, t42, IntKind.wrap IntKind.i64 (t43 + 1), ()), ((), (), u117, ()), ()), h0, h1, ((), ()), bitF BinOp.or IntKind.i64 h3 (IntKind.wrap IntKind.i64 (1 * 2 ^ min (Int.toNat t43) 64)), ((), (), (), (), ()), h5, (), ((h7a_0, ()), ()), h8, h9, u8, h11, ())
    else G 4 K30s122v2_4 ((((), (), (), List.getD t41 (Int.toNat t43) 0, t41, t42, IntKind.wrap IntKind.i64 (t43 + 1), ()), ((), (), u117, ()), ()), h0, h1, ((), ()), h3, ((), (), (), (), ()), h5, (), ((h7a_0, ()), ()), h8, h9, u8, h11, ())
   else G 4 K30s122v2_4 ((((), (), (), List.getD t41 (Int.toNat t43) 0, t41, t42, IntKind.wrap IntKind.i64 (t43 + 1), ()), ((), (), u117, ()), ()), h0, h1, ((), ()), h3, ((), (), (), (), ()), h5, (), ((h7a_0, ()), ()), h8, h9, u8, h11, ())
 else none
 else some ((true, ()), h0, h1, ((), ()), h3, (0, (), (), (), (), ()), h5, (), ((h7a_0, ()), ()), h8, h9, u8, ()) := by kernel_rfl
noncomputable def G30s122v2 : List (Code × Code) → denK (specAt S30s122v2 0) → Option (denL [.bool] × denH O30s122v2) := gsub (cx28) 122 (cAt Tryd.f122 []) S30s122v2 60 [.bool] O30s122v2 6000
noncomputable def cx30s122v2 : Ctx := X30s122v2 G30s122v2
def O30s122v1 : List (Nat × BSh) := [(300003, .box (.dat tSe) false), (300004, .box (.dat tSp) false), (300011, .box (.fn 125 [] []) false), (300012, .box (.dat (.int .i64)) false), (309010, .loopE 30 73 [(3, (.ptr 300003 [])), (4, (.ptr 300004 [])), (11, (.ptr 300011 [])), (12, (.ptr 300012 []))] [37] 0 [0]), (10950001, .box (.dat (.hnd 0 (.struct [tSe, (.int .i64)]))) false), (11210002, .box (.yld 309010) false), (11210003, .box (.fn 96 [(.dat (.hnd 0 (.struct [tSe, (.int .i64)])))] []) false), (11210004, .box (.dat (.arr 7 (.int .i64))) false), (11210005, .box (.dat (.arr 7 (.int .i64))) false), (11210006, .box (.fn 122 [] [(.ptr 10950001 []), (.ptr 11210004 []), (.ptr 11210006 []), (.ptr 11210005 []), (.ptr 11210003 []), (.ptr 11210002 [])]) false)]
noncomputable def Y30s122v1 : List (Code × Code) := [noCodes, noCodes, noCodes, noCodes, ((cAt Tryd.f30 [1, 1, 1, 1, 1, 1, 0, 1, 0, 0]), (cAt Tryd.f30 [1, 1, 1, 1, 1, 1, 0, 1, 0, 1])), noCodes, noCodes, noCodes, noCodes, noCodes, noCodes]
def S30s122v1 : List Gh.Spec := [{ key := (0, 0, 0, 0), frs := [{ fn := 122, n := 119, regs := [(0, (.dat (.int .i64))), (1, (.ptr 10950001 [])), (2, (.ptr 11210004 [])), (3, (.ptr 11210006 [])), (4, (.ptr 11210005 [])), (5, (.ptr 11210003 [])), (6, (.ptr 11210002 []))], round := none, defers := [] }], heap := [(300003, .box (.dat tSe) false), (300004, .box (.dat tSp) false), (300011, .box (.fn 125 [] []) false), (300012, .box (.dat (.int .i64)) false), (309010, .loop 30 73 [(3, (.ptr 300003 [])), (4, (.ptr 300004 [])), (11, (.ptr 300011 [])), (12, (.ptr 300012 []))] [37] 0 false), (10950001, .box (.dat (.hnd 0 (.struct [tSe, (.int .i64)]))) false), (11210002, .box (.yld 309010) false), (11210003, .box (.fn 96 [(.dat (.hnd 0 (.struct [tSe, (.int .i64)])))] []) false), (11210004, .box (.dat (.arr 7 (.int .i64))) false), (11210005, .box (.dat (.arr 7 (.int .i64))) false), (11210006, .box (.fn 122 [] [(.ptr 10950001 []), (.ptr 11210004 []), (.ptr 11210006 []), (.ptr 11210005 []), (.ptr 11210003 []), (.ptr 11210002 [])]) false)], base := 40 }, { key := (124302871000000000004847811969, 122, 3, 1), frs := [{ fn := 122, n := 119, regs := [(0, (.dat (.int .i64))), (1, (.ptr 10950001 [])), (2, (.ptr 11210004 [])), (3, (.ptr 11210006 [])), (8, (.ptr 401220008 [])), (9, (.dat (.int .i64)))], round := none, defers := [] }], heap := [(300003, .box (.dat tSe) false), (300004, .box (.dat tSp) false), (300011, .box (.fn 125 [] []) false), (300012, .box (.dat (.int .i64)) false), (309010, .loop 30 73 [(3, (.ptr 300003 [])), (4, (.ptr 300004 [])), (11, (.ptr 300011 [])), (12, (.ptr 300012 []))] [37] 0 false), (10950001, .box (.dat (.hnd 0 (.struct [tSe, (.int .i64)]))) false), (11210002, .box (.yld 309010) false), (11210003, .box (.fn 96 [(.dat (.hnd 0 (.struct [tSe, (.int .i64)])))] []) false), (11210004, .box (.dat (.arr 7 (.int .i64))) false), (11210005, .box (.dat (.arr 7 (.int .i64))) false), (11210006, .box (.fn 122 [] [(.ptr 10950001 []), (.ptr 11210004 []), (.ptr 11210006 []), (.ptr 11210005 []), (.ptr 11210003 []), (.ptr 11210002 [])]) false), (401220008, .box (.dat .bool) false)], base := 40 }, { key := (124302871000000000004847811992, 123, 2, 1), frs := [{ fn := 123, n := 32, regs := [(0, (.yld 401229019)), (2, (.ptr 410990003 [])), (4, (.dat (.int .i64))), (11, (.dat (.int .i64))), (12, (.dat (.int .i64)))], round := none, defers := [] }, { fn := 122, n := 119, regs := [(2, (.ptr 11210004 [])), (6, (.ptr 11210002 [])), (8, (.ptr 401220008 []))], round := none, defers := [] }], heap := [(300003, .box (.dat tSe) false), (300004, .box (.dat tSp) false), (300011, .box (.fn 125 [] []) false), (300012, .box (.dat (.int .i64)) false), (309010, .loop 30 73 [(3, (.ptr 300003 [])), (4, (.ptr 300004 [])), (11, (.ptr 300011 [])), (12, (.ptr 300012 []))] [37] 0 false), (10950001, .box (.dat (.hnd 0 (.struct [tSe, (.int .i64)]))) false), (11210002, .box (.yld 309010) false), (11210003, .box (.fn 96 [(.dat (.hnd 0 (.struct [tSe, (.int .i64)])))] []) false), (11210004, .box (.dat (.arr 7 (.int .i64))) false), (11210005, .box (.dat (.arr 7 (.int .i64))) false), (11210006, .box (.fn 122 [] [(.ptr 10950001 []), (.ptr 11210004 []), (.ptr 11210006 []), (.ptr 11210005 []), (.ptr 11210003 []), (.ptr 11210002 [])]) false), (401220008, .box (.dat .bool) false), (401229019, .loop 122 119 [(1, (.ptr 10950001 [])), (8, (.ptr 401220008 []))] [100] 0 false), (410990003, .box (.dat (.int .i64)) false)], base := 40 }, { key := (124302871000000000004847811969, 122, 7, 1), frs := [{ fn := 122, n := 119, regs := [(0, (.dat (.int .i64))), (1, (.ptr 10950001 [])), (2, (.ptr 11210004 [])), (3, (.ptr 11210006 [])), (8, (.ptr 401220008 [])), (9, (.dat (.int .i64))), (50, (.dat (.slice tSm))), (51, (.dat (.int .i64))), (52, (.dat (.int .i64)))], round := none, defers := [] }], heap := [(300003, .box (.dat tSe) false), (300004, .box (.dat tSp) false), (300011, .box (.fn 125 [] []) false), (300012, .box (.dat (.int .i64)) false), (309010, .loop 30 73 [(3, (.ptr 300003 [])), (4, (.ptr 300004 [])), (11, (.ptr 300011 [])), (12, (.ptr 300012 []))] [37] 0 false), (10950001, .box (.dat (.hnd 0 (.struct [tSe, (.int .i64)]))) false), (11210002, .box (.yld 309010) false), (11210003, .box (.fn 96 [(.dat (.hnd 0 (.struct [tSe, (.int .i64)])))] []) false), (11210004, .box (.dat (.arr 7 (.int .i64))) false), (11210005, .box (.dat (.arr 7 (.int .i64))) false), (11210006, .box (.fn 122 [] [(.ptr 10950001 []), (.ptr 11210004 []), (.ptr 11210006 []), (.ptr 11210005 []), (.ptr 11210003 []), (.ptr 11210002 [])]) false), (401220008, .box (.dat .bool) false)], base := 40 }, { key := (124302871000000000004847911971, 30, 12, 1), frs := [{ fn := 30, n := 73, regs := [(4, (.ptr 300004 [])), (11, (.ptr 300011 [])), (12, (.ptr 300012 [])), (14, (.dat (.int .i64))), (41, (.dat (.slice (.int .i64)))), (42, (.dat (.int .i64))), (43, (.dat (.int .i64)))], round := (some 309010), defers := [] }, { fn := 122, n := 119, regs := [(8, (.ptr 401220008 [])), (116, (.yld 309010)), (117, (.dat (.arr 7 (.int .i64))))], round := none, defers := [] }], heap := [(300003, .box (.dat tSe) false), (300004, .box (.dat tSp) false), (300011, .box (.fn 125 [] []) false), (300012, .box (.dat (.int .i64)) false), (309010, .loop 30 73 [(3, (.ptr 300003 [])), (4, (.ptr 300004 [])), (11, (.ptr 300011 [])), (12, (.ptr 300012 []))] [37] 0 true), (10950001, .box (.dat (.hnd 0 (.struct [tSe, (.int .i64)]))) false), (11210002, .box (.yld 309010) false), (11210003, .box (.fn 96 [(.dat (.hnd 0 (.struct [tSe, (.int .i64)])))] []) false), (11210004, .box (.dat (.arr 7 (.int .i64))) false), (11210005, .box (.dat (.arr 7 (.int .i64))) false), (11210006, .box (.fn 122 [] [(.ptr 10950001 []), (.ptr 11210004 []), (.ptr 11210006 []), (.ptr 11210005 []), (.ptr 11210003 []), (.ptr 11210002 [])]) false), (401220008, .box (.dat .bool) false)], base := 40 }]
noncomputable def K30s122v1_0 : Kept := kept0 (cAt Tryd.f122 []) Y30s122v1
noncomputable def K30s122v1_1 : Kept := { todos := [[.inLoop (cAt Tryd.f122 [1, 0, 1, 0, 0, 1, 0, 1, 0, 0]), .inBlock 0, .code (cAt Tryd.f122 [1, 0, 1, 0, 0, 1, 1]), .inScope (cAt Tryd.f122 [1, 0, 1, 0, 0]), .code (cAt Tryd.f122 [1, 1])]], cs := [noCodes, noCodes, noCodes, noCodes, ((cAt Tryd.f30 [1, 1, 1, 1, 1, 1, 0, 1, 0, 0]), (cAt Tryd.f30 [1, 1, 1, 1, 1, 1, 0, 1, 0, 1])), noCodes, noCodes, noCodes, noCodes, noCodes, noCodes, noCodes] }
noncomputable def K30s122v1_2 : Kept := { todos := [[.inLoop (cAt Tryd.f123 [1, 1, 0, 0]), .inBlock 0], [.inRangeFunc 401229019, .inBlock 4, .code (cAt Tryd.f122 [1, 1, 1, 1, 1])]], cs := [noCodes, noCodes, noCodes, noCodes, ((cAt Tryd.f30 [1, 1, 1, 1, 1, 1, 0, 1, 0, 0]), (cAt Tryd.f30 [1, 1, 1, 1, 1, 1, 0, 1, 0, 1])), noCodes, noCodes, noCodes, noCodes, noCodes, noCodes, noCodes, ((cAt Tryd.f122 [1, 1, 1, 1, 0, 1, 0, 0]), (cAt Tryd.f122 [1, 1, 1, 1, 0, 1, 0, 1])), noCodes] }
noncomputable def K30s122v1_3 : Kept := { todos := [[.inLoop (cAt Tryd.f122 [1, 0, 1, 0, 0, 1, 0, 1, 0, 0, 1, 0, 0, 1, 0, 1, 0, 0]), .inBlock 2, .code (cAt Tryd.f122 [1, 0, 1, 0, 0, 1, 0, 1, 0, 0, 1, 0, 0, 1, 1]), .inBlock 1, .code (cAt Tryd.f122 [1, 0, 1, 0, 0, 1, 0, 1, 0, 0, 1, 1]), .inLoop (cAt Tryd.f122 [1, 0, 1, 0, 0, 1, 0, 1, 0, 0]), .inBlock 0, .code (cAt Tryd.f122 [1, 0, 1, 0, 0, 1, 1]), .inScope (cAt Tryd.f122 [1, 0, 1, 0, 0]), .code (cAt Tryd.f122 [1, 1])]], cs := [noCodes, noCodes, noCodes, noCodes, ((cAt Tryd.f30 [1, 1, 1, 1, 1, 1, 0, 1, 0, 0]), (cAt Tryd.f30 [1, 1, 1, 1, 1, 1, 0, 1, 0, 1])), noCodes, noCodes, noCodes, noCodes, noCodes, noCodes, noCodes] }
noncomputable def K30s122v1_4 : Kept := { todos := [[.inLoop (cAt Tryd.f30 [1, 1, 1, 1, 1, 1, 0, 1, 0, 1, 0, 1, 1, 0, 0]), .inBlock 2, .inBlock 1], [.inRegion (oAt Tryd.f122 [1, 1, 1, 1, 1, 0]) [2, 3], .code (cAt Tryd.f122 [1, 0, 1, 0, 0, 1, 0, 1, 0, 0, 1, 0, 0, 1, 1, 1, 0, 1])]], cs := [noCodes, noCodes, noCodes, noCodes, ((cAt Tryd.f30 [1, 1, 1, 1, 1, 1, 0, 1, 0, 0]), (cAt Tryd.f30 [1, 1, 1, 1, 1, 1, 0, 1, 0, 1])), noCodes, noCodes, noCodes, noCodes, noCodes, noCodes, noCodes] }
noncomputable def X30s122v1 (f : List (Code × Code) → denK (specAt S30s122v1 0) → Option (denL [.bool] × denH O30s122v1)) : Ctx := (cx30s122v2).addS 122 (asSub S30s122v1 40 [.bool] O30s122v1 f)
abbrev GT30s122v1 : Type := (n : Nat) → Kept → denK (specAt S30s122v1 n) → Option (denL [.bool] × denH O30s122v1)
abbrev FT30s122v1 : Type := List (Code × Code) → denK (specAt S30s122v1 0) → Option (denL [.bool] × denH O30s122v1)
theorem Q30s122v1_0 (G : GT30s122v1) (f : FT30s122v1) (t0 : Int) (h0 : Se) (h1 : Sp) (h3 : Int) (h5 : (Option Sb)) (h7a_0 : (Option Sb)) (h8 : (List Int)) (h9 : (List Int)) : sseg (X30s122v1 f) S30s122v1 [.bool] O30s122v1 6000 some G 0 K30s122v1_0 (((t0, ((), ((), ((), ((), ((), ((), ()))))))), ()), (h0, (h1, (((), ()), (h3, (((), ((), ((), ((), ())))), (h5, ((), (((h7a_0, ()), ()), (h8, (h9, (u8, ())))))))))))) =
  Option.bind h5 fun (y : Sb) =>
 bif decide (t0 < (↑(List.length (Prod.fst (Prod.fst y))) : Int)) then
  Option.bind h5 fun (y : Sb) =>
   bif decide (0 ≤ t0) && decide (t0 < (↑(List.length (Prod.fst (Prod.fst y))) : Int)) then G 1 K30s122v1_1 (((t0, (), (), (), (), Prod.fst (List.getD (Prod.fst (Prod.fst y)) (Int.toNat t0) (0, 0, ())), ()), ()), h0, h1, ((), ()), h3, ((), (), (), (), ()), h5, (), ((h7a_0, ()), ()), h8, h9, u8, false, ()) else none
 else
  bif eqD (Ty.arr 7 (Ty.int IntKind.i64)) h8 h9 then some ((true, ()), h0, h1, ((), ()), h3, (0, (), (), (), (), ()), h5, (), ((h7a_0, ()), ()), h8, h9, u8, ())
  else
   Option.bind (F96 (h7a_0, h8, ())) fun (y : Int × Unit) =>
    Option.bind h5 fun (y_1 : Sb) =>
     G 2 K30s122v1_2 ((((), (), -1, (↑(List.length (Prod.fst (Prod.fst y_1))) : Int), 0, ()), ((), (), (), ()), ()), h0, h1, ((), ()), h3, ((), (), (), (), ()), h5, (), ((h7a_0, ()), ()), h8, h8, u8, false, ((), (), ()), Prod.fst y, ()) := by kernel_rfl
theorem Q30s122v1_1 (G : GT30s122v1) (f : FT30s122v1) (t0 : Int) (t9 : Int) (h0 : Se) (h1 : Sp) (h3 : Int) (h5 : (Option Sb)) (h7a_0 : (Option Sb)) (h8 : (List Int)) (h9 : (List Int)) (h11 : Bool) : sseg (X30s122v1 f) S30s122v1 [.bool] O30s122v1 6000 some G 1 K30s122v1_1 (((t0, ((), ((), ((), ((), (t9, ())))))), ()), (h0, (h1, (((), ()), (h3, (((), ((), ((), ((), ())))), (h5, ((), (((h7a_0, ()), ()), (h8, (h9, (u8, (h11, ()))))))))))))) =
  Option.bind h5 fun (y : Sb) =>
 bif decide (0 ≤ t0) && decide (t0 < (↑(List.length (Prod.fst (Prod.fst y))) : Int)) then
  bif decide (t9 ≤ Prod.fst (Prod.snd (List.getD (Prod.fst (Prod.fst y)) (Int.toNat t0) (0, 0, ())))) then
   bif decide (0 ≤ t0) && decide (t0 < 7) then
    bif decide (Int.toNat t0 < 7) then
     Option.bind h5 fun (y : Sb) =>
      G 3 K30s122v1_3 (((t0, (), (), (), (), t9, Prod.fst (Prod.snd (Prod.fst y)), (↑(List.length (Prod.fst (Prod.snd (Prod.fst y)))) : Int), 0, ()), ()), h0, h1, ((), ()), h3, ((), (), (), (), ()), h5, (), ((h7a_0, ()), ()), List.set h8 (Int.toNat t0) t9, h9, u8, h11, ())
    else none
   else none
  else some ((true, ()), h0, h1, ((), ()), h3, (0, (), (), (), (), ()), h5, (), ((h7a_0, ()), ()), h8, h9, u8, ())
 else none := by kernel_rfl
theorem Q30s122v1_2 (G : GT30s122v1) (f : FT30s122v1) (t4 : Int) (t11 : Int) (t12 : Int) (h0 : Se) (h1 : Sp) (h3 : Int) (h5 : (Option Sb)) (h7a_0 : (Option Sb)) (h8 : (List Int)) (h9 : (List Int)) (h11 : Bool) (h13 : Int) : sseg (X30s122v1 f) S30s122v1 [.bool] O30s122v1 6000 some G 2 K30s122v1_2 ((((), ((), (t4, (t11, (t12, ()))))), (((), ((), ((), ()))), ())), (h0, (h1, (((), ()), (h3, (((), ((), ((), ((), ())))), (h5, ((), (((h7a_0, ()), ()), (h8, (h9, (u8, (h11, (((), ((), ())), (h13, ()))))))))))))))) =
  bif decide (t12 < t11) then
 bif decide (t12 < 0) then none
 else
  bif bitF BinOp.and IntKind.i64 (Int.fdiv h13 (2 ^ min (Int.toNat t12) 64)) 1 == 0 then G 2 K30s122v1_2 ((((), (), t4, t11, IntKind.wrap IntKind.i64 (t12 + 1), ()), ((), (), (), ()), ()), h0, h1, ((), ()), h3, ((), (), (), (), ()), h5, (), ((h7a_0, ()), ()), h8, h9, u8, h11, ((), (), ()), h13, ())
  else
   bif decide (t4 ≥ 0) then
    Option.bind h5 fun (y : Sb) =>
     Option.bind h5 fun (y_1 : Sb) =>
      Option.bind (F84 (Prod.fst (Prod.fst (Prod.snd (Prod.snd (Prod.fst y)))), Prod.fst (Prod.snd (Prod.fst (Prod.snd (Prod.snd (Prod.fst y_1))))), List.set (List.replicate 1 0) 0 (IntKind.wrap IntKind.i64 (t12 - t4)), ())) fun (y : Bool × Unit) =>
       bif Prod.fst y then some ((true, ()), h0, h1, ((), ()), h3, (0, (), (), (), (), ()), h5, (), ((h7a_0, ()), ()), h8, h9, u8, ())
       else G 2 K30s122v1_2 ((((), (), t12, t11, IntKind.wrap IntKind.i64 (t12 + 1), ()), ((), (), (), ()), ()), h0, h1, ((), ()), h3, ((), (), (), (), ()), h5, (), ((h7a_0, ()), ()), h8, h9, u8, h11, ((), (), ()), h13, ())
   else G 2 K30s122v1_2 ((((), (), t12, t11, IntKind.wrap IntKind.i64 (t12 + 1), ()), ((), (), (), ()), ()), h0, h1, ((), ()), h3, ((), (), (), (), ()), h5, (), ((h7a_0, ()), ()), h8, h9, u8, h11, ((), (), ()), h13, ())
 else
 bif decide (0 ≤ (↑(List.length (Prod.fst h0)) : Int)) && decide ((↑(List.length (Prod.fst h0)) : Int) ≤ 7) then
  G 4 K30s122v1_4 ((((), (), (), -1, List.take (Int.toNat (↑(List.length (Prod.fst h0)) : Int)) h8, (↑(List.length (List.take (Int.toNat (↑(List.length (Prod.fst h0)) : Int)) h8)) : Int), 0, ()), ((), (), h8, ()), ()), h0, h1, ((), ()), h3, ((), (), (), (), ()), h5, (), ((h7a_0, ()), ()), h8, h9, u8, h11, ())
 else none := by kernel_rfl
theorem Q30s122v1_3 (G : GT30s122v1) (f : FT30s122v1) (t0 : Int) (t9 : Int) (t50 : (List Sm)) (t51 : Int) (t52 : Int) (h0 : Se) (h1 : Sp) (h3 : Int) (h5 : (Option Sb)) (h7a_0 : (Option Sb)) (h8 : (List Int)) (h9 : (List Int)) (h11 : Bool) : sseg (X30s122v1 f) S30s122v1 [.bool] O30s122v1 6000 some G 3 K30s122v1_3 (((t0, ((), ((), ((), ((), (t9, (t50, (t51, (t52, ()))))))))), ()), (h0, (h1, (((), ()), (h3, (((), ((), ((), ((), ())))), (h5, ((), (((h7a_0, ()), ()), (h8, (h9, (u8, (h11, ()))))))))))))) =
  bif decide (t52 < t51) then
 bif decide (0 ≤ t52) && decide (t52 < (↑(List.length t50) : Int)) then
  bif Prod.fst (Prod.snd (List.getD t50 (Int.toNat t52) (0, 0, (0, 0, ()), ()))) == t0 then
   Option.bind h5 fun (y : Sb) =>
    bif decide (t52 < 0) then none
    else
     bif bitF BinOp.and IntKind.i64 (Int.fdiv (Prod.fst (Prod.snd y)) (2 ^ min (Int.toNat t52) 64)) 1 == 0 then
      Option.bind (F120 (h8, Prod.fst (List.getD t50 (Int.toNat t52) (0, 0, (0, 0, ()), ())), t0, ())) fun (y : Int × Unit) =>
       Option.bind (F84 (Prod.fst (Prod.fst (Prod.snd (Prod.snd (List.getD t50 (Int.toNat t52) (0, 0, (0, 0, ()), ()))))), Prod.fst (Prod.snd (Prod.fst (Prod.snd (Prod.snd (List.getD t50 (Int.toNat t52) (0, 0, (0, 0, ()), ())))))), List.set (List.replicate 1 0) 0 (Prod.fst y), ())) fun (y : Bool × Unit) =>
        bif Prod.fst y then G 1 K30s122v1_1 (((t0, (), (), (), (), IntKind.wrap IntKind.i64 (t9 + 1), ()), ()), h0, h1, ((), ()), h3, ((), (), (), (), ()), h5, (), ((h7a_0, ()), ()), h8, h9, u8, h11, ())
        else G 3 K30s122v1_3 (((t0, (), (), (), (), t9, t50, t51, IntKind.wrap IntKind.i64 (t52 + 1), ()), ()), h0, h1, ((), ()), h3, ((), (), (), (), ()), h5, (), ((h7a_0, ()), ()), h8, h9, u8, h11, ())
     else G 3 K30s122v1_3 (((t0, (), (), (), (), t9, t50, t51, IntKind.wrap IntKind.i64 (t52 + 1), ()), ()), h0, h1, ((), ()), h3, ((), (), (), (), ()), h5, (), ((h7a_0, ()), ()), h8, h9, u8, h11, ())
  else G 3 K30s122v1_3 (((t0, (), (), (), (), t9, t50, t51, IntKind.wrap IntKind.i64 (t52 + 1), ()), ()), h0, h1, ((), ()), h3, ((), (), (), (), ()), h5, (), ((h7a_0, ()), ()), h8, h9, u8, h11, ())
 else none
 else
 Option.bind (f Y30s122v1 (((IntKind.wrap IntKind.i64 (t0 + 1), (), (), (), (), (), (), ()), ()), h0, h1, ((), ()), h3, ((), (), (), (), ()), h5, (), ((h7a_0, ()), ()), h8, h9, u8, ()))
  fun
   (y :
     (Bool × Unit) ×
      Se ×
       Sp ×
        (Unit × Unit) ×
         Int ×
          (Nat × Unit × Unit × Unit × Unit × Unit) ×
           Option Sb × Unit × ((Option Sb × Unit) × Unit) × List Int × List Int × (Unit × Unit × Unit × Unit × Unit × Unit × Unit × Unit) × Unit) =>
  bif Nat.beq (Prod.fst (Prod.fst (Prod.snd (Prod.snd (Prod.snd (Prod.snd (Prod.snd y))))))) 0 then
   bif !Prod.fst (Prod.fst y) then
    some
     ((false, ()), Prod.fst (Prod.snd y), Prod.fst (Prod.snd (Prod.snd y)), ((), ()), Prod.fst (Prod.snd (Prod.snd (Prod.snd (Prod.snd y)))), (0, (), (), (), (), ()), Prod.fst (Prod.snd (Prod.snd (Prod.snd (Prod.snd (Prod.snd (Prod.snd y)))))), (), ((Prod.fst (Prod.fst (Prod.fst (Prod.snd (Prod.snd (Prod.snd (Prod.snd (Prod.snd (Prod.snd (Prod.snd (Prod.snd y)))))))))), ()), ()),
       Prod.fst (Prod.snd (Prod.snd (Prod.snd (Prod.snd (Prod.snd (Prod.snd (Prod.snd (Prod.snd (Prod.snd y))))))))), Prod.fst (Prod.snd (Prod.snd (Prod.snd (Prod.snd (Prod.snd (Prod.snd (Prod.snd (Prod.snd (Prod.snd (Prod.snd y)))))))))), u8, ())
   else
    G 1 K30s122v1_1
     (((t0, (), (), (), (), IntKind.wrap IntKind.i64 (t9 + 1), ()), ()), Prod.fst (Prod.snd y), Prod.fst (Prod.snd (Prod.snd y)), ((), ()), Prod.fst (Prod.snd (Prod.snd (Prod.snd (Prod.snd y)))), ((), (), (), (), ()), Prod.fst (Prod.snd (Prod.snd (Prod.snd (Prod.snd (Prod.snd (Prod.snd y)))))), (),
       ((Prod.fst (Prod.fst (Prod.fst (Prod.snd (Prod.snd (Prod.snd (Prod.snd (Prod.snd (Prod.snd (Prod.snd (Prod.snd y)))))))))), ()), ()), Prod.fst (Prod.snd (Prod.snd (Prod.snd (Prod.snd (Prod.snd (Prod.snd (Prod.snd (Prod.snd (Prod.snd y))))))))), Prod.fst (Prod.snd (Prod.snd (Prod.snd (Prod.snd (Prod.snd (Prod.snd (Prod.snd (Prod.snd (Prod.snd (Prod.snd y)))))))))),
       u8, h11, ())
  else none := by kernel_rfl
theorem Q30s122v1_4 (G : GT30s122v1) (f : FT30s122v1) (t14 : Int) (t41 : (List Int)) (t42 : Int) (t43 : Int) (u117 : (List Int)) (h0 : Se) (h1 : Sp) (h3 : Int) (h5 : (Option Sb)) (h7a_0 : (Option Sb)) (h8 : (List Int)) (h9 : (List Int)) (h11 : Bool) : sseg (X30s122v1 f) S30s122v1 [.bool] O30s122v1 6000 some G 4 K30s122v1_4 ((((), ((), ((), (t14, (t41, (t42, (t43, ()))))))), (((), ((), (u117, ()))), ())), (h0, (h1, (((), ()), (h3, (((), ((), ((), ((), ())))), (h5, ((), (((h7a_0, ()), ()), (h8, (h9, (u8, (h11, ()))))))))))))) =
  bif decide (t43 < t42) then
 bif decide (0 ≤ t43) && decide (t43 < (↑(List.length t41) : Int)) then
  Option.bind (F84 (Prod.fst h1, Prod.fst (Prod.snd h1), List.set (List.replicate 1 0) 0 (List.getD t41 (Int.toNat t43) 0), ())) fun (y : Bool × Unit) =>
   bif !Prod.fst y then
    bif decide (t14 ≥ 0) then
     bif decide (t14 < List.getD t41 (Int.toNat t43) 0) then
      bif decide (t43 < 0) then none else G 4 K30s122v1_4 ((((), (), (), List.getD t41 (Int.toNat t43) 0, t41, t42, IntKind.wrap IntKind.i64 (t43 + 1), ()), ((), (), u117, ()), ()), h0, h1, ((), ()), bitF BinOp.or IntKind.i64 h3 (IntKind.wrap IntKind.i64 (1 * 2 ^ min (Int.toNat t43) 64)), ((), (), (), (), ()), h5, (), ((h7a_0, ()), ()), h8, h9, u8, h11, ())
     else G 4 K30s122v1_4 ((((), (), (), List.getD t41 (Int.toNat t43) 0, t41, t42, IntKind.wrap IntKind.i64 (t43 + 1), ()), ((), (), u117, ()), ()), h0, h1, ((), ()), h3, ((), (), (), (), ()), h5, (), ((h7a_0, ()), ()), h8, h9, u8, h11, ())
    else G 4 K30s122v1_4 ((((), (), (), List.getD t41 (Int.toNat t43) 0, t41, t42, IntKind.wrap IntKind.i64 (t43 + 1), ()), ((), (), u117, ()), ()), h0, h1, ((), ()), h3, ((), (), (), (), ()), h5, (), ((h7a_0, ()), ()), h8, h9, u8, h11, ())
   else G 4 K30s122v1_4 ((((), (), (), List.getD t41 (Int.toNat t43) 0, t41, t42, IntKind.wrap IntKind.i64 (t43 + 1), ()), ((), (), u117, ()), ()), h0, h1, ((), ()), h3, ((), (), (), (), ()), h5, (), ((h7a_0, ()), ()), h8, h9, u8, h11, ())
 else none
 else some ((true, ()), h0, h1, ((), ()), h3, (0, (), (), (), (), ()), h5, (), ((h7a_0, ()), ()), h8, h9, u8, ()) := by kernel_rfl
noncomputable def G30s122v1 : List (Code × Code) → denK (specAt S30s122v1 0) → Option (denL [.bool] × denH O30s122v1) := gsub (cx30s122v2) 122 (cAt Tryd.f122 []) S30s122v1 40 [.bool] O30s122v1 6000
noncomputable def cx30s122v1 : Ctx := X30s122v1 G30s122v1
def O30s122v0 : List (Nat × BSh) := [(300003, .box (.dat tSe) false), (300004, .box (.dat tSp) false), (300011, .box (.fn 124 [] []) false), (300012, .box (.dat (.int .i64)) false), (309010, .loopE 30 73 [(3, (.ptr 300003 [])), (4, (.ptr 300004 [])), (11, (.ptr 300011 [])), (12, (.ptr 300012 []))] [37] 0 [0]), (10950001, .box (.dat (.hnd 0 (.struct [tSe, (.int .i64)]))) false), (11210002, .box (.yld 309010) false), (11210003, .box (.fn 96 [(.dat (.hnd 0 (.struct [tSe, (.int .i64)])))] []) false), (11210004, .box (.dat (.arr 7 (.int .i64))) false), (11210005, .box (.dat (.arr 7 (.int .i64))) false), (11210006, .box (.fn 122 [] [(.ptr 10950001 []), (.ptr 11210004 []), (.ptr 11210006 []), (.ptr 11210005 []), (.ptr 11210003 []), (.ptr 11210002 [])]) false)]
noncomputable def Y30s122v0 : List (Code × Code) := [noCodes, noCodes, noCodes, noCodes, ((cAt Tryd.f30 [1, 1, 1, 1, 1, 1, 0, 1, 0, 0]), (cAt Tryd.f30 [1, 1, 1, 1, 1, 1, 0, 1, 0, 1])), noCodes, noCodes, noCodes, noCodes, noCodes, noCodes]
def S30s122v0 : List Gh.Spec := [{ key := (0, 0, 0, 0), frs := [{ fn := 122, n := 119, regs := [(0, (.dat (.int .i64))), (1, (.ptr 10950001 [])), (2, (.ptr 11210004 [])), (3, (.ptr 11210006 [])), (4, (.ptr 11210005 [])), (5, (.ptr 11210003 [])), (6, (.ptr 11210002 []))], round := none, defers := [] }], heap := [(300003, .box (.dat tSe) false), (300004, .box (.dat tSp) false), (300011, .box (.fn 124 [] []) false), (300012, .box (.dat (.int .i64)) false), (309010, .loop 30 73 [(3, (.ptr 300003 [])), (4, (.ptr 300004 [])), (11, (.ptr 300011 [])), (12, (.ptr 300012 []))] [37] 0 false), (10950001, .box (.dat (.hnd 0 (.struct [tSe, (.int .i64)]))) false), (11210002, .box (.yld 309010) false), (11210003, .box (.fn 96 [(.dat (.hnd 0 (.struct [tSe, (.int .i64)])))] []) false), (11210004, .box (.dat (.arr 7 (.int .i64))) false), (11210005, .box (.dat (.arr 7 (.int .i64))) false), (11210006, .box (.fn 122 [] [(.ptr 10950001 []), (.ptr 11210004 []), (.ptr 11210006 []), (.ptr 11210005 []), (.ptr 11210003 []), (.ptr 11210002 [])]) false)], base := 20 }, { key := (124302870000000000004847811930, 122, 3, 1), frs := [{ fn := 122, n := 119, regs := [(0, (.dat (.int .i64))), (1, (.ptr 10950001 [])), (2, (.ptr 11210004 [])), (3, (.ptr 11210006 [])), (8, (.ptr 201220008 [])), (9, (.dat (.int .i64)))], round := none, defers := [] }], heap := [(300003, .box (.dat tSe) false), (300004, .box (.dat tSp) false), (300011, .box (.fn 124 [] []) false), (300012, .box (.dat (.int .i64)) false), (309010, .loop 30 73 [(3, (.ptr 300003 [])), (4, (.ptr 300004 [])), (11, (.ptr 300011 [])), (12, (.ptr 300012 []))] [37] 0 false), (10950001, .box (.dat (.hnd 0 (.struct [tSe, (.int .i64)]))) false), (11210002, .box (.yld 309010) false), (11210003, .box (.fn 96 [(.dat (.hnd 0 (.struct [tSe, (.int .i64)])))] []) false), (11210004, .box (.dat (.arr 7 (.int .i64))) false), (11210005, .box (.dat (.arr 7 (.int .i64))) false), (11210006, .box (.fn 122 [] [(.ptr 10950001 []), (.ptr 11210004 []), (.ptr 11210006 []), (.ptr 11210005 []), (.ptr 11210003 []), (.ptr 11210002 [])]) false), (201220008, .box (.dat .bool) false)], base := 20 }, { key := (124302870000000000004847811953, 123, 2, 1), frs := [{ fn := 123, n := 32, regs := [(0, (.yld 201229019)), (2, (.ptr 210990003 [])), (4, (.dat (.int .i64))), (11, (.dat (.int .i64))), (12, (.dat (.int .i64)))], round := none, defers := [] }, { fn := 122, n := 119, regs := [(2, (.ptr 11210004 [])), (6, (.ptr 11210002 [])), (8, (.ptr 201220008 []))], round := none, defers := [] }], heap := [(300003, .box (.dat tSe) false), (300004, .box (.dat tSp) false), (300011, .box (.fn 124 [] []) false), (300012, .box (.dat (.int .i64)) false), (309010, .loop 30 73 [(3, (.ptr 300003 [])), (4, (.ptr 300004 [])), (11, (.ptr 300011 [])), (12, (.ptr 300012 []))] [37] 0 false), (10950001, .box (.dat (.hnd 0 (.struct [tSe, (.int .i64)]))) false), (11210002, .box (.yld 309010) false), (11210003, .box (.fn 96 [(.dat (.hnd 0 (.struct [tSe, (.int .i64)])))] []) false), (11210004, .box (.dat (.arr 7 (.int .i64))) false), (11210005, .box (.dat (.arr 7 (.int .i64))) false), (11210006, .box (.fn 122 [] [(.ptr 10950001 []), (.ptr 11210004 []), (.ptr 11210006 []), (.ptr 11210005 []), (.ptr 11210003 []), (.ptr 11210002 [])]) false), (201220008, .box (.dat .bool) false), (201229019, .loop 122 119 [(1, (.ptr 10950001 [])), (8, (.ptr 201220008 []))] [100] 0 false), (210990003, .box (.dat (.int .i64)) false)], base := 20 }, { key := (124302870000000000004847811930, 122, 7, 1), frs := [{ fn := 122, n := 119, regs := [(0, (.dat (.int .i64))), (1, (.ptr 10950001 [])), (2, (.ptr 11210004 [])), (3, (.ptr 11210006 [])), (8, (.ptr 201220008 [])), (9, (.dat (.int .i64))), (50, (.dat (.slice tSm))), (51, (.dat (.int .i64))), (52, (.dat (.int .i64)))], round := none, defers := [] }], heap := [(300003, .box (.dat tSe) false), (300004, .box (.dat tSp) false), (300011, .box (.fn 124 [] []) false), (300012, .box (.dat (.int .i64)) false), (309010, .loop 30 73 [(3, (.ptr 300003 [])), (4, (.ptr 300004 [])), (11, (.ptr 300011 [])), (12, (.ptr 300012 []))] [37] 0 false), (10950001, .box (.dat (.hnd 0 (.struct [tSe, (.int .i64)]))) false), (11210002, .box (.yld 309010) false), (11210003, .box (.fn 96 [(.dat (.hnd 0 (.struct [tSe, (.int .i64)])))] []) false), (11210004, .box (.dat (.arr 7 (.int .i64))) false), (11210005, .box (.dat (.arr 7 (.int .i64))) false), (11210006, .box (.fn 122 [] [(.ptr 10950001 []), (.ptr 11210004 []), (.ptr 11210006 []), (.ptr 11210005 []), (.ptr 11210003 []), (.ptr 11210002 [])]) false), (201220008, .box (.dat .bool) false)], base := 20 }, { key := (124302870000000000004847911932, 30, 12, 1), frs := [{ fn := 30, n := 73, regs := [(4, (.ptr 300004 [])), (11, (.ptr 300011 [])), (12, (.ptr 300012 [])), (14, (.dat (.int .i64))), (41, (.dat (.slice (.int .i64)))), (42, (.dat (.int .i64))), (43, (.dat (.int .i64)))], round := (some 309010), defers := [] }, { fn := 122, n := 119, regs := [(8, (.ptr 201220008 [])), (116, (.yld 309010)), (117, (.dat (.arr 7 (.int .i64))))], round := none, defers := [] }], heap := [(300003, .box (.dat tSe) false), (300004, .box (.dat tSp) false), (300011, .box (.fn 124 [] []) false), (300012, .box (.dat (.int .i64)) false), (309010, .loop 30 73 [(3, (.ptr 300003 [])), (4, (.ptr 300004 [])), (11, (.ptr 300011 [])), (12, (.ptr 300012 []))] [37] 0 true), (10950001, .box (.dat (.hnd 0 (.struct [tSe, (.int .i64)]))) false), (11210002, .box (.yld 309010) false), (11210003, .box (.fn 96 [(.dat (.hnd 0 (.struct [tSe, (.int .i64)])))] []) false), (11210004, .box (.dat (.arr 7 (.int .i64))) false), (11210005, .box (.dat (.arr 7 (.int .i64))) false), (11210006, .box (.fn 122 [] [(.ptr 10950001 []), (.ptr 11210004 []), (.ptr 11210006 []), (.ptr 11210005 []), (.ptr 11210003 []), (.ptr 11210002 [])]) false), (201220008, .box (.dat .bool) false)], base := 20 }]
noncomputable def K30s122v0_0 : Kept := kept0 (cAt Tryd.f122 []) Y30s122v0
noncomputable def K30s122v0_1 : Kept := { todos := [[.inLoop (cAt Tryd.f122 [1, 0, 1, 0, 0, 1, 0, 1, 0, 0]), .inBlock 0, .code (cAt Tryd.f122 [1, 0, 1, 0, 0, 1, 1]), .inScope (cAt Tryd.f122 [1, 0, 1, 0, 0]), .code (cAt Tryd.f122 [1, 1])]], cs := [noCodes, noCodes, noCodes, noCodes, ((cAt Tryd.f30 [1, 1, 1, 1, 1, 1, 0, 1, 0, 0]), (cAt Tryd.f30 [1, 1, 1, 1, 1, 1, 0, 1, 0, 1])), noCodes, noCodes, noCodes, noCodes, noCodes, noCodes, noCodes] }
noncomputable def K30s122v0_2 : Kept := { todos := [[.inLoop (cAt Tryd.f123 [1, 1, 0, 0]), .inBlock 0], [.inRangeFunc 201229019, .inBlock 4, .code (cAt Tryd.f122 [1, 1, 1, 1, 1])]], cs := [noCodes, noCodes, noCodes, noCodes, ((cAt Tryd.f30 [1, 1, 1, 1, 1, 1, 0, 1, 0, 0]), (cAt Tryd.f30 [1, 1, 1, 1, 1, 1, 0, 1, 0, 1])), noCodes, noCodes, noCodes, noCodes, noCodes, noCodes, noCodes, ((cAt Tryd.f122 [1, 1, 1, 1, 0, 1, 0, 0]), (cAt Tryd.f122 [1, 1, 1, 1, 0, 1, 0, 1])), noCodes] }
noncomputable def K30s122v0_3 : Kept := { todos := [[.inLoop (cAt Tryd.f122 [1, 0, 1, 0, 0, 1, 0, 1, 0, 0, 1, 0, 0, 1, 0, 1, 0, 0]), .inBlock 2, .code (cAt Tryd.f122 [1, 0, 1, 0, 0, 1, 0, 1, 0, 0, 1, 0, 0, 1, 1]), .inBlock 1, .code (cAt Tryd.f122 [1, 0, 1, 0, 0, 1, 0, 1, 0, 0, 1, 1]), .inLoop (cAt Tryd.f122 [1, 0, 1, 0, 0, 1, 0, 1, 0, 0]), .inBlock 0, .code (cAt Tryd.f122 [1, 0, 1, 0, 0, 1, 1]), .inScope (cAt Tryd.f122 [1, 0, 1, 0, 0]), .code (cAt Tryd.f122 [1, 1])]], cs := [noCodes, noCodes, noCodes, noCodes, ((cAt Tryd.f30 [1, 1, 1, 1, 1, 1, 0, 1, 0, 0]), (cAt Tryd.f30 [1, 1, 1, 1, 1, 1, 0, 1, 0, 1])), noCodes, noCodes, noCodes, noCodes, noCodes, noCodes, noCodes] }
noncomputable def K30s122v0_4 : Kept := { todos := [[.inLoop (cAt Tryd.f30 [1, 1, 1, 1, 1, 1, 0, 1, 0, 1, 0, 1, 1, 0, 0]), .inBlock 2, .inBlock 1], [.inRegion (oAt Tryd.f122 [1, 1, 1, 1, 1, 0]) [2, 3], .code (cAt Tryd.f122 [1, 0, 1, 0, 0, 1, 0, 1, 0, 0, 1, 0, 0, 1, 1, 1, 0, 1])]], cs := [noCodes, noCodes, noCodes, noCodes, ((cAt Tryd.f30 [1, 1, 1, 1, 1, 1, 0, 1, 0, 0]), (cAt Tryd.f30 [1, 1, 1, 1, 1, 1, 0, 1, 0, 1])), noCodes, noCodes, noCodes, noCodes, noCodes, noCodes, noCodes] }
noncomputable def X30s122v0 (f : List (Code × Code) → denK (specAt S30s122v0 0) → Option (denL [.bool] × denH O30s122v0)) : Ctx := (cx30s122v1).addS 122 (asSub S30s122v0 20 [.bool] O30s122v0 f)
abbrev GT30s122v0 : Type := (n : Nat) → Kept → denK (specAt S30s122v0 n) → Option (denL [.bool] × denH O30s122v0)
abbrev FT30s122v0 : Type := List (Code × Code) → denK (specAt S30s122v0 0) → Option (denL [.bool] × denH O30s122v0)
theorem Q30s122v0_0 (G : GT30s122v0) (f : FT30s122v0) (t0 : Int) (h0 : Se) (h1 : Sp) (h3 : Int) (h5 : (Option Sb)) (h7a_0 : (Option Sb)) (h8 : (List Int)) (h9 : (List Int)) : sseg (X30s122v0 f) S30s122v0 [.bool] O30s122v0 6000 some G 0 K30s122v0_0 (((t0, ((), ((), ((), ((), ((), ((), ()))))))), ()), (h0, (h1, (((), ()), (h3, (((), ((), ((), ((), ())))), (h5, ((), (((h7a_0, ()), ()), (h8, (h9, (u8, ())))))))))))) =
  Option.bind h5 fun (y : Sb) =>
 bif decide (t0 < (↑(List.length (Prod.fst (Prod.fst y))) : Int)) then
  Option.bind h5 fun (y : Sb) =>
   bif decide (0 ≤ t0) && decide (t0 < (↑(List.length (Prod.fst (Prod.fst y))) : Int)) then G 1 K30s122v0_1 (((t0, (), (), (), (), Prod.fst (List.getD (Prod.fst (Prod.fst y)) (Int.toNat t0) (0, 0, ())), ()), ()), h0, h1, ((), ()), h3, ((), (), (), (), ()), h5, (), ((h7a_0, ()), ()), h8, h9, u8, false, ()) else none
 else
  bif eqD (Ty.arr 7 (Ty.int IntKind.i64)) h8 h9 then some ((true, ()), h0, h1, ((), ()), h3, (0, (), (), (), (), ()), h5, (), ((h7a_0, ()), ()), h8, h9, u8, ())
  else
   Option.bind (F96 (h7a_0, h8, ())) fun (y : Int × Unit) =>
    Option.bind h5 fun (y_1 : Sb) =>
     G 2 K30s122v0_2 ((((), (), -1, (↑(List.length (Prod.fst (Prod.fst y_1))) : Int), 0, ()), ((), (), (), ()), ()), h0, h1, ((), ()), h3, ((), (), (), (), ()), h5, (), ((h7a_0, ()), ()), h8, h8, u8, false, ((), (), ()), Prod.fst y, ()) := by kernel_rfl
theorem Q30s122v0_1 (G : GT30s122v0) (f : FT30s122v0) (t0 : Int) (t9 : Int) (h0 : Se) (h1 : Sp) (h3 : Int) (h5 : (Option Sb)) (h7a_0 : (Option Sb)) (h8 : (List Int)) (h9 : (List Int)) (h11 : Bool) : sseg (X30s122v0 f) S30s122v0 [.bool] O30s122v0 6000 some G 1 K30s122v0_1 (((t0, ((), ((), ((), ((), (t9, ())))))), ()), (h0, (h1, (((), ()), (h3, (((), ((), ((), ((), ())))), (h5, ((), (((h7a_0, ()), ()), (h8, (h9, (u8, (h11, ()))))))))))))) =
  Option.bind h5 fun (y : Sb) =>
 bif decide (0 ≤ t0) && decide (t0 < (↑(List.length (Prod.fst (Prod.fst y))) : Int)) then
  bif decide (t9 ≤ Prod.fst (Prod.snd (List.getD (Prod.fst (Prod.fst y)) (Int.toNat t0) (0, 0, ())))) then
   bif decide (0 ≤ t0) && decide (t0 < 7) then
    bif decide (Int.toNat t0 < 7) then
     Option.bind h5 fun (y : Sb) =>
      G 3 K30s122v0_3 (((t0, (), (), (), (), t9, Prod.fst (Prod.snd (Prod.fst y)), (↑(List.length (Prod.fst (Prod.snd (Prod.fst y)))) : Int), 0, ()), ()), h0, h1, ((), ()), h3, ((), (), (), (), ()), h5, (), ((h7a_0, ()), ()), List.set h8 (Int.toNat t0) t9, h9, u8, h11, ())
    else none
   else none
  else some ((true, ()), h0, h1, ((), ()), h3, (0, (), (), (), (), ()), h5, (), ((h7a_0, ()), ()), h8, h9, u8, ())
 else none := by kernel_rfl
theorem Q30s122v0_2 (G : GT30s122v0) (f : FT30s122v0) (t4 : Int) (t11 : Int) (t12 : Int) (h0 : Se) (h1 : Sp) (h3 : Int) (h5 : (Option Sb)) (h7a_0 : (Option Sb)) (h8 : (List Int)) (h9 : (List Int)) (h11 : Bool) (h13 : Int) : sseg (X30s122v0 f) S30s122v0 [.bool] O30s122v0 6000 some G 2 K30s122v0_2 ((((), ((), (t4, (t11, (t12, ()))))), (((), ((), ((), ()))), ())), (h0, (h1, (((), ()), (h3, (((), ((), ((), ((), ())))), (h5, ((), (((h7a_0, ()), ()), (h8, (h9, (u8, (h11, (((), ((), ())), (h13, ()))))))))))))))) =
  bif decide (t12 < t11) then
 bif decide (t12 < 0) then none
 else
  bif bitF BinOp.and IntKind.i64 (Int.fdiv h13 (2 ^ min (Int.toNat t12) 64)) 1 == 0 then G 2 K30s122v0_2 ((((), (), t4, t11, IntKind.wrap IntKind.i64 (t12 + 1), ()), ((), (), (), ()), ()), h0, h1, ((), ()), h3, ((), (), (), (), ()), h5, (), ((h7a_0, ()), ()), h8, h9, u8, h11, ((), (), ()), h13, ())
  else
   bif decide (t4 ≥ 0) then
    Option.bind h5 fun (y : Sb) =>
     Option.bind h5 fun (y_1 : Sb) =>
      Option.bind (F84 (Prod.fst (Prod.fst (Prod.snd (Prod.snd (Prod.fst y)))), Prod.fst (Prod.snd (Prod.fst (Prod.snd (Prod.snd (Prod.fst y_1))))), List.set (List.replicate 1 0) 0 (IntKind.wrap IntKind.i64 (t12 - t4)), ())) fun (y : Bool × Unit) =>
       bif Prod.fst y then some ((true, ()), h0, h1, ((), ()), h3, (0, (), (), (), (), ()), h5, (), ((h7a_0, ()), ()), h8, h9, u8, ())
       else G 2 K30s122v0_2 ((((), (), t12, t11, IntKind.wrap IntKind.i64 (t12 + 1), ()), ((), (), (), ()), ()), h0, h1, ((), ()), h3, ((), (), (), (), ()), h5, (), ((h7a_0, ()), ()), h8, h9, u8, h11, ((), (), ()), h13, ())
   else G 2 K30s122v0_2 ((((), (), t12, t11, IntKind.wrap IntKind.i64 (t12 + 1), ()), ((), (), (), ()), ()), h0, h1, ((), ()), h3, ((), (), (), (), ()), h5, (), ((h7a_0, ()), ()), h8, h9, u8, h11, ((), (), ()), h13, ())
 else
 bif decide (0 ≤ (↑(List.length (Prod.fst h0)) : Int)) && decide ((↑(List.length (Prod.fst h0)) : Int) ≤ 7) then
  G 4 K30s122v0_4 ((((), (), (), -1, List.take (Int.toNat (↑(List.length (Prod.fst h0)) : Int)) h8, (↑(List.length (List.take (Int.toNat (↑(List.length (Prod.fst h0)) : Int)) h8)) : Int), 0, ()), ((), (), h8, ()), ()), h0, h1, ((), ()), h3, ((), (), (), (), ()), h5, (), ((h7a_0, ()), ()), h8, h9, u8, h11, ())
 else none := by kernel_rfl
theorem Q30s122v0_3 (G : GT30s122v0) (f : FT30s122v0) (t0 : Int) (t9 : Int) (t50 : (List Sm)) (t51 : Int) (t52 : Int) (h0 : Se) (h1 : Sp) (h3 : Int) (h5 : (Option Sb)) (h7a_0 : (Option Sb)) (h8 : (List Int)) (h9 : (List Int)) (h11 : Bool) : sseg (X30s122v0 f) S30s122v0 [.bool] O30s122v0 6000 some G 3 K30s122v0_3 (((t0, ((), ((), ((), ((), (t9, (t50, (t51, (t52, ()))))))))), ()), (h0, (h1, (((), ()), (h3, (((), ((), ((), ((), ())))), (h5, ((), (((h7a_0, ()), ()), (h8, (h9, (u8, (h11, ()))))))))))))) =
  bif decide (t52 < t51) then
 bif decide (0 ≤ t52) && decide (t52 < (↑(List.length t50) : Int)) then
  bif Prod.fst (Prod.snd (List.getD t50 (Int.toNat t52) (0, 0, (0, 0, ()), ()))) == t0 then
   Option.bind h5 fun (y : Sb) =>
    bif decide (t52 < 0) then none
    else
     bif bitF BinOp.and IntKind.i64 (Int.fdiv (Prod.fst (Prod.snd y)) (2 ^ min (Int.toNat t52) 64)) 1 == 0 then
      Option.bind (F120 (h8, Prod.fst (List.getD t50 (Int.toNat t52) (0, 0, (0, 0, ()), ())), t0, ())) fun (y : Int × Unit) =>
       Option.bind (F84 (Prod.fst (Prod.fst (Prod.snd (Prod.snd (List.getD t50 (Int.toNat t52) (0, 0, (0, 0, ()), ()))))), Prod.fst (Prod.snd (Prod.fst (Prod.snd (Prod.snd (List.getD t50 (Int.toNat t52) (0, 0, (0, 0, ()), ())))))), List.set (List.replicate 1 0) 0 (Prod.fst y), ())) fun (y : Bool × Unit) =>
        bif Prod.fst y then G 1 K30s122v0_1 (((t0, (), (), (), (), IntKind.wrap IntKind.i64 (t9 + 1), ()), ()), h0, h1, ((), ()), h3, ((), (), (), (), ()), h5, (), ((h7a_0, ()), ()), h8, h9, u8, h11, ())
        else G 3 K30s122v0_3 (((t0, (), (), (), (), t9, t50, t51, IntKind.wrap IntKind.i64 (t52 + 1), ()), ()), h0, h1, ((), ()), h3, ((), (), (), (), ()), h5, (), ((h7a_0, ()), ()), h8, h9, u8, h11, ())
     else G 3 K30s122v0_3 (((t0, (), (), (), (), t9, t50, t51, IntKind.wrap IntKind.i64 (t52 + 1), ()), ()), h0, h1, ((), ()), h3, ((), (), (), (), ()), h5, (), ((h7a_0, ()), ()), h8, h9, u8, h11, ())
  else G 3 K30s122v0_3 (((t0, (), (), (), (), t9, t50, t51, IntKind.wrap IntKind.i64 (t52 + 1), ()), ()), h0, h1, ((), ()), h3, ((), (), (), (), ()), h5, (), ((h7a_0, ()), ()), h8, h9, u8, h11, ())
 else none
 else
 Option.bind (f Y30s122v0 (((IntKind.wrap IntKind.i64 (t0 + 1), (), (), (), (), (), (), ()), ()), h0, h1, ((), ()), h3, ((), (), (), (), ()), h5, (), ((h7a_0, ()), ()), h8, h9, u8, ()))
  fun
   (y :
     (Bool × Unit) ×
      Se ×
       Sp ×
        (Unit × Unit) ×
         Int ×
          (Nat × Unit × Unit × Unit × Unit × Unit) ×
           Option Sb × Unit × ((Option Sb × Unit) × Unit) × List Int × List Int × (Unit × Unit × Unit × Unit × Unit × Unit × Unit × Unit) × Unit) =>
  bif Nat.beq (Prod.fst (Prod.fst (Prod.snd (Prod.snd (Prod.snd (Prod.snd (Prod.snd y))))))) 0 then
   bif !Prod.fst (Prod.fst y) then
    some
     ((false, ()), Prod.fst (Prod.snd y), Prod.fst (Prod.snd (Prod.snd y)), ((), ()), Prod.fst (Prod.snd (Prod.snd (Prod.snd (Prod.snd y)))), (0, (), (), (), (), ()), Prod.fst (Prod.snd (Prod.snd (Prod.snd (Prod.snd (Prod.snd (Prod.snd y)))))), (), ((Prod.fst (Prod.fst (Prod.fst (Prod.snd (Prod.snd (Prod.snd (Prod.snd (Prod.snd (Prod.snd (Prod.snd (Prod.snd y)))))))))), ()), ()),
       Prod.fst (Prod.snd (Prod.snd (Prod.snd (Prod.snd (Prod.snd (Prod.snd (Prod.snd (Prod.snd (Prod.snd y))))))))), Prod.fst (Prod.snd (Prod.snd (Prod.snd (Prod.snd (Prod.snd (Prod.snd (Prod.snd (Prod.snd (Prod.snd (Prod.snd y)))))))))), u8, ())
   else
    G 1 K30s122v0_1
     (((t0, (), (), (), (), IntKind.wrap IntKind.i64 (t9 + 1), ()), ()), Prod.fst (Prod.snd y), Prod.fst (Prod.snd (Prod.snd y)), ((), ()), Prod.fst (Prod.snd (Prod.snd (Prod.snd (Prod.snd y)))), ((), (), (), (), ()), Prod.fst (Prod.snd (Prod.snd (Prod.snd (Prod.snd (Prod.snd (Prod.snd y)))))), (),
       ((Prod.fst (Prod.fst (Prod.fst (Prod.snd (Prod.snd (Prod.snd (Prod.snd (Prod.snd (Prod.snd (Prod.snd (Prod.snd y)))))))))), ()), ()), Prod.fst (Prod.snd (Prod.snd (Prod.snd (Prod.snd (Prod.snd (Prod.snd (Prod.snd (Prod.snd (Prod.snd y))))))))), Prod.fst (Prod.snd (Prod.snd (Prod.snd (Prod.snd (Prod.snd (Prod.snd (Prod.snd (Prod.snd (Prod.snd (Prod.snd y)))))))))),
       u8, h11, ())
  else none := by kernel_rfl
theorem Q30s122v0_4 (G : GT30s122v0) (f : FT30s122v0) (t14 : Int) (t41 : (List Int)) (t42 : Int) (t43 : Int) (u117 : (List Int)) (h0 : Se) (h1 : Sp) (h3 : Int) (h5 : (Option Sb)) (h7a_0 : (Option Sb)) (h8 : (List Int)) (h9 : (List Int)) (h11 : Bool) : sseg (X30s122v0 f) S30s122v0 [.bool] O30s122v0 6000 some G 4 K30s122v0_4 ((((), ((), ((), (t14, (t41, (t42, (t43, ()))))))), (((), ((), (u117, ()))), ())), (h0, (h1, (((), ()), (h3, (((), ((), ((), ((), ())))), (h5, ((), (((h7a_0, ()), ()), (h8, (h9, (u8, (h11, ()))))))))))))) =
  bif decide (t43 < t42) then
 bif decide (0 ≤ t43) && decide (t43 < (↑(List.length t41) : Int)) then
  Option.bind (F84 (Prod.fst h1, Prod.fst (Prod.snd h1), List.set (List.replicate 1 0) 0 (List.getD t41 (Int.toNat t43) 0), ())) fun (y : Bool × Unit) =>
   bif !Prod.fst y then
    bif decide (t43 < 0) then none else G 4 K30s122v0_4 ((((), (), (), List.getD t41 (Int.toNat t43) 0, t41, t42, IntKind.wrap IntKind.i64 (t43 + 1), ()), ((), (), u117, ()), ()), h0, h1, ((), ()), bitF BinOp.or IntKind.i64 h3 (IntKind.wrap IntKind.i64 (1 * 2 ^ min (Int.toNat t43) 64)), ((), (), (), (), ()), h5, (), ((h7a_0, ()), ()), h8, h9, u8, h11, ())
   else G 4 K30s122v0_4 ((((), (), (), List.getD t41 (Int.toNat t43) 0, t41, t42, IntKind.wrap IntKind.i64 (t43 + 1), ()), ((), (), u117, ()), ()), h0, h1, ((), ()), h3, ((), (), (), (), ()), h5, (), ((h7a_0, ()), ()), h8, h9, u8, h11, ())
 else none
 else some ((true, ()), h0, h1, ((), ()), h3, (0, (), (), (), (), ()), h5, (), ((h7a_0, ()), ()), h8, h9, u8, ()) := by kernel_rfl
noncomputable def G30s122v0 : List (Code × Code) → denK (specAt S30s122v0 0) → Option (denL [.bool] × denH O30s122v0) := gsub (cx30s122v1) 122 (cAt Tryd.f122 []) S30s122v0 20 [.bool] O30s122v0 6000
noncomputable def cx30s122v0 : Ctx := X30s122v0 G30s122v0
def S30 : List Gh.Spec := [{ key := (99999, 0, 0, 0), frs := [], heap := [] }]
abbrev GT30 : Type := (n : Nat) → Kept → denK (specAt S30 n) → Option (denL [(.slice (.int .i64)), (.int .i64)])
theorem E30 (G : GT30) (t0 : Se) (t1 : Sp) (t2 : Int) : enter cx30s122v0 S30 [(.slice (.int .i64)), (.int .i64)] 6000 some G 30 [tSe, tSp, (.int .i64)] (t0, (t1, (t2, ()))) =
  Option.bind (F81 (t1, 0, 99, ())) fun (y : Int × Unit) =>
 Option.bind (F84 (0, 2, List.set (List.replicate 1 0) 0 t2, ())) fun (y_1 : Bool × Unit) =>
  bif Prod.fst y_1 then
   Option.bind (F88 (t0, 7, [], ())) fun (y : Option Sb × Int × Unit) =>
    bif Prod.fst (Prod.snd y) != 0 then some ([], Prod.fst (Prod.snd y), ())
    else
     bif decide (0 ≤ t2) && decide (t2 < 3) then
      bif decide (Int.toNat t2 = 0) then
       Option.bind (G30s122v0 Y30s122v0 (((0, (), (), (), (), (), (), ()), ()), t0, t1, ((), ()), 0, ((), (), (), (), ()), Prod.fst y, (), ((Prod.fst y, ()), ()), List.replicate 7 0, -1 :: List.replicate 6 0, u8, ()))
        fun
         (y :
           (Bool × Unit) ×
            Se ×
             Sp ×
              (Unit × Unit) ×
               Int ×
                (Nat × Unit × Unit × Unit × Unit × Unit) ×
                 Option Sb × Unit × ((Option Sb × Unit) × Unit) × List Int × List Int × (Unit × Unit × Unit × Unit × Unit × Unit × Unit × Unit) × Unit) =>
        bif Nat.beq (Prod.fst (Prod.fst (Prod.snd (Prod.snd (Prod.snd (Prod.snd (Prod.snd y))))))) 0 then Option.bind (F104 (Prod.fst (Prod.snd (Prod.snd (Prod.snd (Prod.snd y)))), (↑(List.length (Prod.fst (Prod.fst (Prod.snd y)))) : Int), ())) fun (y : List Int × Unit) => some (Prod.fst y, 0, ()) else none
      else
       bif decide (Int.toNat t2 = 1) then
        Option.bind (G30s122v1 Y30s122v1 (((0, (), (), (), (), (), (), ()), ()), t0, t1, ((), ()), 0, ((), (), (), (), ()), Prod.fst y, (), ((Prod.fst y, ()), ()), List.replicate 7 0, -1 :: List.replicate 6 0, u8, ()))
         fun
          (y :
            (Bool × Unit) ×
             Se ×
              Sp ×
               (Unit × Unit) ×
                Int ×
                 (Nat × Unit × Unit × Unit × Unit × Unit) ×
                  Option Sb × Unit × ((Option Sb × Unit) × Unit) × List Int × List Int × (Unit × Unit × Unit × Unit × Unit × Unit × Unit × Unit) × Unit) =>
         bif Nat.beq (Prod.fst (Prod.fst (Prod.snd (Prod.snd (Prod.snd (Prod.snd (Prod.snd y))))))) 0 then Option.bind (F104 (Prod.fst (Prod.snd (Prod.snd (Prod.snd (Prod.snd y)))), (↑(List.length (Prod.fst (Prod.fst (Prod.snd y)))) : Int), ())) fun (y : List Int × Unit) => some (Prod.fst y, 0, ()) else none
       else
        bif decide (Int.toNat t2 = 2) then
         Option.bind (G30s122v2 Y30s122v2 (((0, (), (), (), (), (), (), ()), ()), t0, t1, ((), ()), 0, ((), (), (), (), ()), Prod.fst y, (), ((Prod.fst y, ()), ()), List.replicate 7 0, -1 :: List.replicate 6 0, u8, ()))
          fun
           (y :
             (Bool × Unit) ×
              Se ×
               Sp ×
                (Unit × Unit) ×
                 Int ×
                  (Nat × Unit × Unit × Unit × Unit × Unit) ×
                   Option Sb × Unit × ((Option Sb × Unit) × Unit) × List Int × List Int × (Unit × Unit × Unit × Unit × Unit × Unit × Unit × Unit) × Unit) =>
          bif Nat.beq (Prod.fst (Prod.fst (Prod.snd (Prod.snd (Prod.snd (Prod.snd (Prod.snd y))))))) 0 then Option.bind (F104 (Prod.fst (Prod.snd (Prod.snd (Prod.snd (Prod.snd y)))), (↑(List.length (Prod.fst (Prod.fst (Prod.snd y)))) : Int), ())) fun (y : List Int × Unit) => some (Prod.fst y, 0, ()) else none
        else none
     else none
  else
   Option.bind (F88 (t0, Prod.fst y, [], ())) fun (y : Option Sb × Int × Unit) =>
    bif Prod.fst (Prod.snd y) != 0 then some ([], Prod.fst (Prod.snd y), ())
    else
     bif decide (0 ≤ t2) && decide (t2 < 3) then
      bif decide (Int.toNat t2 = 0) then
       Option.bind (G30s122v0 Y30s122v0 (((0, (), (), (), (), (), (), ()), ()), t0, t1, ((), ()), 0, ((), (), (), (), ()), Prod.fst y, (), ((Prod.fst y, ()), ()), List.replicate 7 0, -1 :: List.replicate 6 0, u8, ()))
        fun
         (y :
           (Bool × Unit) ×
            Se ×
             Sp ×
              (Unit × Unit) ×
               Int ×
                (Nat × Unit × Unit × Unit × Unit × Unit) ×
                 Option Sb × Unit × ((Option Sb × Unit) × Unit) × List Int × List Int × (Unit × Unit × Unit × Unit × Unit × Unit × Unit × Unit) × Unit) =>
        bif Nat.beq (Prod.fst (Prod.fst (Prod.snd (Prod.snd (Prod.snd (Prod.snd (Prod.snd y))))))) 0 then Option.bind (F104 (Prod.fst (Prod.snd (Prod.snd (Prod.snd (Prod.snd y)))), (↑(List.length (Prod.fst (Prod.fst (Prod.snd y)))) : Int), ())) fun (y : List Int × Unit) => some (Prod.fst y, 0, ()) else none
      else
       bif decide (Int.toNat t2 = 1) then
        Option.bind (G30s122v1 Y30s122v1 (((0, (), (), (), (), (), (), ()), ()), t0, t1, ((), ()), 0, ((), (), (), (), ()), Prod.fst y, (), ((Prod.fst y, ()), ()), List.replicate 7 0, -1 :: List.replicate 6 0, u8, ()))
         fun
          (y :
            (Bool × Unit) ×
             Se ×
              Sp ×
               (Unit × Unit) ×
                Int ×
                 (Nat × Unit × Unit × Unit × Unit × Unit) ×
                  Option Sb × Unit × ((Option Sb × Unit) × Unit) × List Int × List Int × (Unit × Unit × Unit × Unit × Unit × Unit × Unit × Unit) × Unit) =>
         bif Nat.beq (Prod.fst (Prod.fst (Prod.snd (Prod.snd (Prod.snd (Prod.snd (Prod.snd y))))))) 0 then Option.bind (F104 (Prod.fst (Prod.snd (Prod.snd (Prod.snd (Prod.snd y)))), (↑(List.length (Prod.fst (Prod.fst (Prod.snd y)))) : Int), ())) fun (y : List Int × Unit) => some (Prod.fst y, 0, ()) else none
       else
        bif decide (Int.toNat t2 = 2) then
         Option.bind (G30s122v2 Y30s122v2 (((0, (), (), (), (), (), (), ()), ()), t0, t1, ((), ()), 0, ((), (), (), (), ()), Prod.fst y, (), ((Prod.fst y, ()), ()), List.replicate 7 0, -1 :: List.replicate 6 0, u8, ()))
          fun
           (y :
             (Bool × Unit) ×
              Se ×
               Sp ×
                (Unit × Unit) ×
                 Int ×
                  (Nat × Unit × Unit × Unit × Unit × Unit) ×
                   Option Sb × Unit × ((Option Sb × Unit) × Unit) × List Int × List Int × (Unit × Unit × Unit × Unit × Unit × Unit × Unit × Unit) × Unit) =>
          bif Nat.beq (Prod.fst (Prod.fst (Prod.snd (Prod.snd (Prod.snd (Prod.snd (Prod.snd y))))))) 0 then Option.bind (F104 (Prod.fst (Prod.snd (Prod.snd (Prod.snd (Prod.snd y)))), (↑(List.length (Prod.fst (Prod.fst (Prod.snd y)))) : Int), ())) fun (y : List Int × Unit) => some (Prod.fst y, 0, ()) else none
        else none
     else none := by kernel_rfl
noncomputable def F30 : denL [tSe, tSp, (.int .i64)] → Option (denL [(.slice (.int .i64)), (.int .i64)]) := ghost cx30s122v0 S30 6000 30 [tSe, tSp, (.int .i64)] [(.slice (.int .i64)), (.int .i64)]
noncomputable def C30 : Con := ⟨[tSe, tSp, (.int .i64)], [(.slice (.int .i64)), (.int .i64)], F30⟩
noncomputable def cx30 : Ctx := cx28.add 30 C30
end Go.Proofs.YtkbephbhajplhaaDoor
