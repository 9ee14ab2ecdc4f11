/- What the ghost comes to: the book that is looked at. Conditions: none (equations, each by computation). -/
import Derived.Test.YtallblpnlefpeaaRoX
namespace Go.Proofs.Ytallblpnlefpeaa
open Go Go.Gh Go.Proofs
def S78 : List Gh.Spec := [{ key := (0, 78, 2, 1), frs := [{ fn := 78, n := 24, regs := [(0, (.dat (.int .i64))), (1, (.dat (.int .i64))), (9, (.dat (.slice (.int .i64)))), (10, (.dat (.int .i64))), (11, (.dat (.int .i64)))], round := none, defers := [] }], heap := [] }]
noncomputable def K78_0 : Kept := { todos := [[.inLoop (cAt Try.f78 [1, 0, 1, 0, 0]), .inBlock 0, .code (cAt Try.f78 [1, 1])]], cs := [] }
theorem E78 (G : (n : Nat) → Kept → denK (specAt S78 n) → Option (denL [.bool])) (t0 : Int) (t1 : Int) (t2 : (List Int)) : enter cx0 S78 [.bool] 6000 some G 78 [(.int .i64), (.int .i64), (.slice (.int .i64))] (t0, (t1, (t2, ()))) =
  G 0 K78_0 (((t0, t1, t2, (↑(List.length t2) : Int), 0, ()), ()), ()) := by kernel_rfl
theorem Q78_0 (G : (n : Nat) → Kept → denK (specAt S78 n) → Option (denL [.bool])) (t0 : Int) (t1 : Int) (t9 : (List Int)) (t10 : Int) (t11 : Int) : seg cx0 S78 [.bool] 6000 some G 0 K78_0 (((t0, (t1, (t9, (t10, (t11, ()))))), ()), ()) =
  bif decide (t11 < t10) then bif decide (0 ≤ t11) && decide (t11 < (↑(List.length t9) : Int)) then bif decide (List.getD t9 (Int.toNat t11) 0 < t0) then some (true, ()) else bif decide (List.getD t9 (Int.toNat t11) 0 > t1) then some (true, ()) else G 0 K78_0 (((t0, t1, t9, t10, IntKind.wrap IntKind.i64 (t11 + 1), ()), ()), ()) else none else some (false, ()) := by kernel_rfl
noncomputable def F78 : denL [(.int .i64), (.int .i64), (.slice (.int .i64))] → Option (denL [.bool]) := ghost cx0 S78 6000 78 [(.int .i64), (.int .i64), (.slice (.int .i64))] [.bool]
noncomputable def C78 : Con := ⟨[(.int .i64), (.int .i64), (.slice (.int .i64))], [.bool], F78⟩
noncomputable def cx78 : Ctx := cx0.add 78 C78
def S112 : List Gh.Spec := []
theorem E112 (G : (n : Nat) → Kept → denK (specAt S112 n) → Option (denL [(.hnd 0 (.struct [tBk]))])) (t0 : Bk) : enter cx78 S112 [(.hnd 0 (.struct [tBk]))] 6000 some G 112 [tBk] (t0, ()) =
  guardP (some (t0, ()) = some (t0, ())) (some (some (t0, ()), ())) := by kernel_rfl
noncomputable def F112 : denL [tBk] → Option (denL [(.hnd 0 (.struct [tBk]))]) := ghost cx78 S112 6000 112 [tBk] [(.hnd 0 (.struct [tBk]))]
noncomputable def C112 : Con := ⟨[tBk], [(.hnd 0 (.struct [tBk]))], F112⟩
noncomputable def cx112 : Ctx := cx78.add 112 C112
def S86 : List Gh.Spec := [{ key := (0, 86, 2, 1), frs := [{ fn := 86, n := 25, regs := [(2, (.dat (.int .i64))), (9, (.dat (.slice (.struct [(.int .i64), .bool])))), (10, (.dat (.int .i64))), (11, (.dat (.int .i64)))], round := none, defers := [] }], heap := [] }]
noncomputable def K86_0 : Kept := { todos := [[.inLoop (cAt Try.f86 [1, 0, 1, 0, 0]), .inBlock 0, .code (cAt Try.f86 [1, 1])]], cs := [] }
theorem E86 (G : (n : Nat) → Kept → denK (specAt S86 n) → Option (denL [(.int .i64)])) (t0 : (Option (Bk × Unit))) : enter cx112 S86 [(.int .i64)] 6000 some G 86 [(.hnd 0 (.struct [tBk]))] (t0, ()) =
  Option.bind t0 fun (y : Bk × Unit) => G 0 K86_0 (((0, Prod.fst (Prod.fst y), (↑(List.length (Prod.fst (Prod.fst y))) : Int), 0, ()), ()), ()) := by kernel_rfl
theorem Q86_0 (G : (n : Nat) → Kept → denK (specAt S86 n) → Option (denL [(.int .i64)])) (t2 : Int) (t9 : (List Rw)) (t10 : Int) (t11 : Int) : seg cx112 S86 [(.int .i64)] 6000 some G 0 K86_0 (((t2, (t9, (t10, (t11, ())))), ()), ()) =
  bif decide (t11 < t10) then
 bif decide (0 ≤ t11) && decide (t11 < (↑(List.length t9) : Int)) then
  bif !Prod.fst (Prod.snd (List.getD t9 (Int.toNat t11) (0, false, ()))) then bif decide (t11 < 0) then none else G 0 K86_0 (((bitF BinOp.or IntKind.i64 t2 (IntKind.wrap IntKind.i64 (1 * 2 ^ min (Int.toNat t11) 64)), t9, t10, IntKind.wrap IntKind.i64 (t11 + 1), ()), ()), ()) else G 0 K86_0 (((t2, t9, t10, IntKind.wrap IntKind.i64 (t11 + 1), ()), ()), ())
 else none
 else some (t2, ()) := by kernel_rfl
noncomputable def F86 : denL [(.hnd 0 (.struct [tBk]))] → Option (denL [(.int .i64)]) := ghost cx112 S86 6000 86 [(.hnd 0 (.struct [tBk]))] [(.int .i64)]
noncomputable def C86 : Con := ⟨[(.hnd 0 (.struct [tBk]))], [(.int .i64)], F86⟩
noncomputable def cx86 : Ctx := cx112.add 86 C86
def S111 : List Gh.Spec := [{ key := (128264000000000000005002306, 114, 1, 1), frs := [{ fn := 114, n := 21, regs := [(0, (.yld 1119007)), (1, (.ptr 10930001 [])), (3, (.dat (.int .i64)))], round := none, defers := [] }, { fn := 111, n := 57, regs := [(5, (.ptr 1110005 [])), (7, (.ptr 1110007 [])), (8, (.ptr 1110008 [])), (10, (.ptr 1110010 []))], round := none, defers := [] }], heap := [(1110004, .box (.dat (.hnd 0 (.struct [tBk]))) false), (1110005, .box (.dat tWy) false), (1110007, .box (.dat (.arr 6 tFd)) false), (1110008, .box (.dat tFd) false), (1110009, .box (.fn 127 [] []) false), (1110010, .box (.fn 121 [] [(.ptr 1110008 []), (.ptr 1110009 [])]) false), (1119007, .loop 111 57 [(4, (.ptr 1110004 [])), (10, (.ptr 1110010 []))] [28] 0 false), (10930001, .box (.dat (.int .i64)) false)] }, { key := (129273000000000000005041657, 114, 1, 1), frs := [{ fn := 114, n := 21, regs := [(0, (.yld 1119007)), (1, (.ptr 10930001 [])), (3, (.dat (.int .i64)))], round := none, defers := [] }, { fn := 111, n := 57, regs := [(5, (.ptr 1110005 [])), (7, (.ptr 1110007 [])), (8, (.ptr 1110008 [])), (10, (.ptr 1110010 []))], round := none, defers := [] }], heap := [(1110004, .box (.dat (.hnd 0 (.struct [tBk]))) false), (1110005, .box (.dat tWy) false), (1110007, .box (.dat (.arr 6 tFd)) false), (1110008, .box (.dat tFd) false), (1110009, .box (.fn 128 [] []) false), (1110010, .box (.fn 121 [] [(.ptr 1110008 []), (.ptr 1110009 [])]) false), (1119007, .loop 111 57 [(4, (.ptr 1110004 [])), (10, (.ptr 1110010 []))] [28] 0 false), (10930001, .box (.dat (.int .i64)) false)] }, { key := (130282000000000000005081008, 114, 1, 1), frs := [{ fn := 114, n := 21, regs := [(0, (.yld 1119007)), (1, (.ptr 10930001 [])), (3, (.dat (.int .i64)))], round := none, defers := [] }, { fn := 111, n := 57, regs := [(5, (.ptr 1110005 [])), (7, (.ptr 1110007 [])), (8, (.ptr 1110008 [])), (10, (.ptr 1110010 []))], round := none, defers := [] }], heap := [(1110004, .box (.dat (.hnd 0 (.struct [tBk]))) false), (1110005, .box (.dat tWy) false), (1110007, .box (.dat (.arr 6 tFd)) false), (1110008, .box (.dat tFd) false), (1110009, .box (.fn 129 [] []) false), (1110010, .box (.fn 121 [] [(.ptr 1110008 []), (.ptr 1110009 [])]) false), (1119007, .loop 111 57 [(4, (.ptr 1110004 [])), (10, (.ptr 1110010 []))] [28] 0 false), (10930001, .box (.dat (.int .i64)) false)] }, { key := (122216000000000000004766434, 114, 1, 1), frs := [{ fn := 114, n := 21, regs := [(0, (.yld 1119007)), (1, (.ptr 10930001 [])), (3, (.dat (.int .i64)))], round := none, defers := [] }, { fn := 111, n := 57, regs := [(5, (.ptr 1110005 [])), (7, (.ptr 1110007 [])), (8, (.ptr 1110008 [])), (10, (.ptr 1110010 []))], round := none, defers := [] }], heap := [(1110004, .box (.dat (.hnd 0 (.struct [tBk]))) false), (1110005, .box (.dat tWy) false), (1110007, .box (.dat (.arr 6 tFd)) false), (1110008, .box (.dat tFd) false), (1110009, .box (.fn 127 [] []) false), (1110010, .box (.fn 121 [] [(.ptr 1110008 []), (.ptr 1110009 [])]) false), (1119007, .loop 111 57 [(4, (.ptr 1110004 [])), (10, (.ptr 1110010 []))] [28] 0 false), (10930001, .box (.dat (.int .i64)) false)] }, { key := (122216000000000000004766439, 114, 1, 1), frs := [{ fn := 114, n := 21, regs := [(0, (.yld 1119010)), (1, (.ptr 10930001 [])), (3, (.dat (.int .i64)))], round := none, defers := [] }, { fn := 111, n := 57, regs := [(8, (.ptr 1110008 []))], round := none, defers := [] }], heap := [(1110007, .box (.dat (.arr 6 tFd)) false), (1110008, .box (.dat tFd) false), (1110009, .box (.fn 127 [] []) false), (1110010, .box (.fn 121 [] [(.ptr 1110008 []), (.ptr 1110009 [])]) false), (1119010, .loop 111 57 [(7, (.ptr 1110007 [])), (8, (.ptr 1110008 [])), (10, (.ptr 1110010 []))] [43] 0 false), (10930001, .box (.dat (.int .i64)) false)] }, { key := (122217000000000000004766473, 114, 1, 1), frs := [{ fn := 114, n := 21, regs := [(0, (.yld 1119007)), (1, (.ptr 10930001 [])), (3, (.dat (.int .i64)))], round := none, defers := [] }, { fn := 111, n := 57, regs := [(5, (.ptr 1110005 [])), (7, (.ptr 1110007 [])), (8, (.ptr 1110008 [])), (10, (.ptr 1110010 []))], round := none, defers := [] }], heap := [(1110004, .box (.dat (.hnd 0 (.struct [tBk]))) false), (1110005, .box (.dat tWy) false), (1110007, .box (.dat (.arr 6 tFd)) false), (1110008, .box (.dat tFd) false), (1110009, .box (.fn 128 [] []) false), (1110010, .box (.fn 121 [] [(.ptr 1110008 []), (.ptr 1110009 [])]) false), (1119007, .loop 111 57 [(4, (.ptr 1110004 [])), (10, (.ptr 1110010 []))] [28] 0 false), (10930001, .box (.dat (.int .i64)) false)] }, { key := (122217000000000000004766478, 114, 1, 1), frs := [{ fn := 114, n := 21, regs := [(0, (.yld 1119010)), (1, (.ptr 10930001 [])), (3, (.dat (.int .i64)))], round := none, defers := [] }, { fn := 111, n := 57, regs := [(8, (.ptr 1110008 []))], round := none, defers := [] }], heap := [(1110007, .box (.dat (.arr 6 tFd)) false), (1110008, .box (.dat tFd) false), (1110009, .box (.fn 128 [] []) false), (1110010, .box (.fn 121 [] [(.ptr 1110008 []), (.ptr 1110009 [])]) false), (1119010, .loop 111 57 [(7, (.ptr 1110007 [])), (8, (.ptr 1110008 [])), (10, (.ptr 1110010 []))] [43] 0 false), (10930001, .box (.dat (.int .i64)) false)] }, { key := (122218000000000000004766512, 114, 1, 1), frs := [{ fn := 114, n := 21, regs := [(0, (.yld 1119007)), (1, (.ptr 10930001 [])), (3, (.dat (.int .i64)))], round := none, defers := [] }, { fn := 111, n := 57, regs := [(5, (.ptr 1110005 [])), (7, (.ptr 1110007 [])), (8, (.ptr 1110008 [])), (10, (.ptr 1110010 []))], round := none, defers := [] }], heap := [(1110004, .box (.dat (.hnd 0 (.struct [tBk]))) false), (1110005, .box (.dat tWy) false), (1110007, .box (.dat (.arr 6 tFd)) false), (1110008, .box (.dat tFd) false), (1110009, .box (.fn 129 [] []) false), (1110010, .box (.fn 121 [] [(.ptr 1110008 []), (.ptr 1110009 [])]) false), (1119007, .loop 111 57 [(4, (.ptr 1110004 [])), (10, (.ptr 1110010 []))] [28] 0 false), (10930001, .box (.dat (.int .i64)) false)] }, { key := (122218000000000000004766517, 114, 1, 1), frs := [{ fn := 114, n := 21, regs := [(0, (.yld 1119010)), (1, (.ptr 10930001 [])), (3, (.dat (.int .i64)))], round := none, defers := [] }, { fn := 111, n := 57, regs := [(8, (.ptr 1110008 []))], round := none, defers := [] }], heap := [(1110007, .box (.dat (.arr 6 tFd)) false), (1110008, .box (.dat tFd) false), (1110009, .box (.fn 129 [] []) false), (1110010, .box (.fn 121 [] [(.ptr 1110008 []), (.ptr 1110009 [])]) false), (1119010, .loop 111 57 [(7, (.ptr 1110007 [])), (8, (.ptr 1110008 [])), (10, (.ptr 1110010 []))] [43] 0 false), (10930001, .box (.dat (.int .i64)) false)] }]
noncomputable def K111_0 : Kept := { todos := [[.inLoop (cAt Try.f114 [1, 0, 0]), .inBlock 0], [.inRangeFunc 1119007, .inBlock 0, .code (cAt Try.f111 [1, 1, 1, 1, 1])]], cs := [noCodes, noCodes, noCodes, noCodes, noCodes, noCodes, ((cAt Try.f111 [1, 1, 1, 1, 0, 1, 0, 0]), (cAt Try.f111 [1, 1, 1, 1, 0, 1, 0, 1])), noCodes] }
noncomputable def K111_1 : Kept := { todos := [[.inLoop (cAt Try.f114 [1, 0, 0]), .inBlock 0], [.inRangeFunc 1119007, .inBlock 0, .code (cAt Try.f111 [1, 1, 1, 1, 1])]], cs := [noCodes, noCodes, noCodes, noCodes, noCodes, noCodes, ((cAt Try.f111 [1, 1, 1, 1, 0, 1, 0, 0]), (cAt Try.f111 [1, 1, 1, 1, 0, 1, 0, 1])), noCodes] }
noncomputable def K111_2 : Kept := { todos := [[.inLoop (cAt Try.f114 [1, 0, 0]), .inBlock 0], [.inRangeFunc 1119007, .inBlock 0, .code (cAt Try.f111 [1, 1, 1, 1, 1])]], cs := [noCodes, noCodes, noCodes, noCodes, noCodes, noCodes, ((cAt Try.f111 [1, 1, 1, 1, 0, 1, 0, 0]), (cAt Try.f111 [1, 1, 1, 1, 0, 1, 0, 1])), noCodes] }
noncomputable def K111_3 : Kept := { todos := [[.inLoop (cAt Try.f114 [1, 0, 0]), .inBlock 0], [.inRangeFunc 1119007, .inBlock 0, .code (cAt Try.f111 [1, 1, 1, 1, 1])]], cs := [noCodes, noCodes, noCodes, noCodes, noCodes, noCodes, ((cAt Try.f111 [1, 1, 1, 1, 0, 1, 0, 0]), (cAt Try.f111 [1, 1, 1, 1, 0, 1, 0, 1])), noCodes] }
noncomputable def K111_4 : Kept := { todos := [[.inLoop (cAt Try.f114 [1, 0, 0]), .inBlock 0], [.inRangeFunc 1119010, .inBlock 2, .code (cAt Try.f111 [1, 1, 1, 1, 1, 1])]], cs := [noCodes, noCodes, noCodes, noCodes, ((cAt Try.f111 [1, 1, 1, 1, 1, 0, 1, 0, 0]), (cAt Try.f111 [1, 1, 1, 1, 1, 0, 1, 0, 1])), noCodes] }
noncomputable def K111_5 : Kept := { todos := [[.inLoop (cAt Try.f114 [1, 0, 0]), .inBlock 0], [.inRangeFunc 1119007, .inBlock 0, .code (cAt Try.f111 [1, 1, 1, 1, 1])]], cs := [noCodes, noCodes, noCodes, noCodes, noCodes, noCodes, ((cAt Try.f111 [1, 1, 1, 1, 0, 1, 0, 0]), (cAt Try.f111 [1, 1, 1, 1, 0, 1, 0, 1])), noCodes] }
noncomputable def K111_6 : Kept := { todos := [[.inLoop (cAt Try.f114 [1, 0, 0]), .inBlock 0], [.inRangeFunc 1119010, .inBlock 2, .code (cAt Try.f111 [1, 1, 1, 1, 1, 1])]], cs := [noCodes, noCodes, noCodes, noCodes, ((cAt Try.f111 [1, 1, 1, 1, 1, 0, 1, 0, 0]), (cAt Try.f111 [1, 1, 1, 1, 1, 0, 1, 0, 1])), noCodes] }
noncomputable def K111_7 : Kept := { todos := [[.inLoop (cAt Try.f114 [1, 0, 0]), .inBlock 0], [.inRangeFunc 1119007, .inBlock 0, .code (cAt Try.f111 [1, 1, 1, 1, 1])]], cs := [noCodes, noCodes, noCodes, noCodes, noCodes, noCodes, ((cAt Try.f111 [1, 1, 1, 1, 0, 1, 0, 0]), (cAt Try.f111 [1, 1, 1, 1, 0, 1, 0, 1])), noCodes] }
noncomputable def K111_8 : Kept := { todos := [[.inLoop (cAt Try.f114 [1, 0, 0]), .inBlock 0], [.inRangeFunc 1119010, .inBlock 2, .code (cAt Try.f111 [1, 1, 1, 1, 1, 1])]], cs := [noCodes, noCodes, noCodes, noCodes, ((cAt Try.f111 [1, 1, 1, 1, 1, 0, 1, 0, 0]), (cAt Try.f111 [1, 1, 1, 1, 1, 0, 1, 0, 1])), noCodes] }
theorem E111 (G : (n : Nat) → Kept → denK (specAt S111 n) → Option (denL [tFd])) (t0 : (Option (Bk × Unit))) (t1 : Wy) (t2 : Int) (t3 : (List Fd)) : enter cx86 S111 [tFd] 6000 some G 111 [(.hnd 0 (.struct [tBk])), tWy, (.int .i64), (.arr 6 tFd)] (t0, (t1, (t2, (t3, ())))) =
  bif bitF BinOp.andNot IntKind.i64 (Prod.fst (Prod.snd t1)) t2 != 0 then some ((false, 0, ()), ())
 else
 bif decide (0 ≤ Prod.fst t1) && decide (Prod.fst t1 < 3) then
  bif decide (Int.toNat (Prod.fst t1) = 0) then G 0 K111_0 ((((), (), 0, ()), ((), (), (), (), ()), ()), t0, t1, t3, (false, 0, ()), ((), ()), ((), (), (), ()), ((), (), ()), Prod.fst (Prod.snd t1), ())
  else
   bif decide (Int.toNat (Prod.fst t1) = 1) then G 1 K111_1 ((((), (), 0, ()), ((), (), (), (), ()), ()), t0, t1, t3, (false, 0, ()), ((), ()), ((), (), (), ()), ((), (), ()), Prod.fst (Prod.snd t1), ())
   else bif decide (Int.toNat (Prod.fst t1) = 2) then G 2 K111_2 ((((), (), 0, ()), ((), (), (), (), ()), ()), t0, t1, t3, (false, 0, ()), ((), ()), ((), (), (), ()), ((), (), ()), Prod.fst (Prod.snd t1), ()) else none
 else none := by kernel_rfl
theorem Q111_0 (G : (n : Nat) → Kept → denK (specAt S111 n) → Option (denL [tFd])) (t3 : Int) (h0 : (Option (Bk × Unit))) (h1 : Wy) (h2 : (List Fd)) (h3 : Fd) (h7 : Int) : seg cx86 S111 [tFd] 6000 some G 0 K111_0 ((((), ((), (t3, ()))), (((), ((), ((), ((), ())))), ())), (h0, (h1, (h2, (h3, (((), ()), (((), ((), ((), ()))), (((), ((), ())), (h7, ()))))))))) =
  bif decide (t3 < 0) then none
 else
 bif decide (Int.fdiv h7 (2 ^ min (Int.toNat t3) 64) > 0) then
  bif decide (t3 < 0) then none
  else
   bif bitF BinOp.and IntKind.i64 (Int.fdiv h7 (2 ^ min (Int.toNat t3) 64)) 1 == 1 then
    Option.bind h0 fun (y : Bk × Unit) =>
     bif decide (0 ≤ t3) && decide (t3 < (↑(List.length (Prod.fst (Prod.fst y))) : Int)) then
      bif eqD (Ty.struct [Ty.bool, Ty.int IntKind.i64]) h3 (false, 0, ()) then G 3 K111_3 ((((), (), IntKind.wrap IntKind.i64 (t3 + 1), ()), ((), (), (), (), ()), ()), h0, h1, h2, (true, Prod.fst (List.getD (Prod.fst (Prod.fst y)) (Int.toNat t3) (0, false, ())), ()), ((), ()), ((), (), (), ()), ((), (), ()), h7, ())
      else G 3 K111_3 ((((), (), IntKind.wrap IntKind.i64 (t3 + 1), ()), ((), (), (), (), ()), ()), h0, h1, h2, (Prod.fst h3, IntKind.wrap IntKind.i64 (Prod.fst (Prod.snd h3) + Prod.fst (List.getD (Prod.fst (Prod.fst y)) (Int.toNat t3) (0, false, ()))), ()), ((), ()), ((), (), (), ()), ((), (), ()), h7, ())
     else none
   else G 3 K111_3 ((((), (), IntKind.wrap IntKind.i64 (t3 + 1), ()), ((), (), (), (), ()), ()), h0, h1, h2, h3, ((), ()), ((), (), (), ()), ((), (), ()), h7, ())
 else G 4 K111_4 ((((), (), 0, ()), ((), ()), ()), h2, h3, ((), ()), ((), (), (), ()), ((), (), (), ()), Prod.fst (Prod.snd (Prod.snd h1)), ()) := by kernel_rfl
theorem Q111_1 (G : (n : Nat) → Kept → denK (specAt S111 n) → Option (denL [tFd])) (t3 : Int) (h0 : (Option (Bk × Unit))) (h1 : Wy) (h2 : (List Fd)) (h3 : Fd) (h7 : Int) : seg cx86 S111 [tFd] 6000 some G 1 K111_1 ((((), ((), (t3, ()))), (((), ((), ((), ((), ())))), ())), (h0, (h1, (h2, (h3, (((), ()), (((), ((), ((), ()))), (((), ((), ())), (h7, ()))))))))) =
  bif decide (t3 < 0) then none
 else
 bif decide (Int.fdiv h7 (2 ^ min (Int.toNat t3) 64) > 0) then
  bif decide (t3 < 0) then none
  else
   bif bitF BinOp.and IntKind.i64 (Int.fdiv h7 (2 ^ min (Int.toNat t3) 64)) 1 == 1 then
    Option.bind h0 fun (y : Bk × Unit) =>
     bif decide (0 ≤ t3) && decide (t3 < (↑(List.length (Prod.fst (Prod.fst y))) : Int)) then
      bif eqD (Ty.struct [Ty.bool, Ty.int IntKind.i64]) h3 (false, 0, ()) then G 5 K111_5 ((((), (), IntKind.wrap IntKind.i64 (t3 + 1), ()), ((), (), (), (), ()), ()), h0, h1, h2, (true, Prod.fst (List.getD (Prod.fst (Prod.fst y)) (Int.toNat t3) (0, false, ())), ()), ((), ()), ((), (), (), ()), ((), (), ()), h7, ())
      else G 5 K111_5 ((((), (), IntKind.wrap IntKind.i64 (t3 + 1), ()), ((), (), (), (), ()), ()), h0, h1, h2, (Prod.fst h3, if Prod.fst (List.getD (Prod.fst (Prod.fst y)) (Int.toNat t3) (0, false, ())) > Prod.fst (Prod.snd h3) then Prod.fst (List.getD (Prod.fst (Prod.fst y)) (Int.toNat t3) (0, false, ())) else Prod.fst (Prod.snd h3), ()), ((), ()), ((), (), (), ()), ((), (), ()), h7, ())
     else none
   else G 5 K111_5 ((((), (), IntKind.wrap IntKind.i64 (t3 + 1), ()), ((), (), (), (), ()), ()), h0, h1, h2, h3, ((), ()), ((), (), (), ()), ((), (), ()), h7, ())
 else G 6 K111_6 ((((), (), 0, ()), ((), ()), ()), h2, h3, ((), ()), ((), (), (), ()), ((), (), (), ()), Prod.fst (Prod.snd (Prod.snd h1)), ()) := by kernel_rfl
theorem Q111_2 (G : (n : Nat) → Kept → denK (specAt S111 n) → Option (denL [tFd])) (t3 : Int) (h0 : (Option (Bk × Unit))) (h1 : Wy) (h2 : (List Fd)) (h3 : Fd) (h7 : Int) : seg cx86 S111 [tFd] 6000 some G 2 K111_2 ((((), ((), (t3, ()))), (((), ((), ((), ((), ())))), ())), (h0, (h1, (h2, (h3, (((), ()), (((), ((), ((), ()))), (((), ((), ())), (h7, ()))))))))) =
  bif decide (t3 < 0) then none
 else
 bif decide (Int.fdiv h7 (2 ^ min (Int.toNat t3) 64) > 0) then
  bif decide (t3 < 0) then none
  else
   bif bitF BinOp.and IntKind.i64 (Int.fdiv h7 (2 ^ min (Int.toNat t3) 64)) 1 == 1 then
    Option.bind h0 fun (y : Bk × Unit) =>
     bif decide (0 ≤ t3) && decide (t3 < (↑(List.length (Prod.fst (Prod.fst y))) : Int)) then
      bif eqD (Ty.struct [Ty.bool, Ty.int IntKind.i64]) h3 (false, 0, ()) then G 7 K111_7 ((((), (), IntKind.wrap IntKind.i64 (t3 + 1), ()), ((), (), (), (), ()), ()), h0, h1, h2, (true, Prod.fst (List.getD (Prod.fst (Prod.fst y)) (Int.toNat t3) (0, false, ())), ()), ((), ()), ((), (), (), ()), ((), (), ()), h7, ())
      else G 7 K111_7 ((((), (), IntKind.wrap IntKind.i64 (t3 + 1), ()), ((), (), (), (), ()), ()), h0, h1, h2, (Prod.fst h3, if Prod.fst (List.getD (Prod.fst (Prod.fst y)) (Int.toNat t3) (0, false, ())) < Prod.fst (Prod.snd h3) then Prod.fst (List.getD (Prod.fst (Prod.fst y)) (Int.toNat t3) (0, false, ())) else Prod.fst (Prod.snd h3), ()), ((), ()), ((), (), (), ()), ((), (), ()), h7, ())
     else none
   else G 7 K111_7 ((((), (), IntKind.wrap IntKind.i64 (t3 + 1), ()), ((), (), (), (), ()), ()), h0, h1, h2, h3, ((), ()), ((), (), (), ()), ((), (), ()), h7, ())
 else G 8 K111_8 ((((), (), 0, ()), ((), ()), ()), h2, h3, ((), ()), ((), (), (), ()), ((), (), (), ()), Prod.fst (Prod.snd (Prod.snd h1)), ()) := by kernel_rfl
theorem Q111_3 (G : (n : Nat) → Kept → denK (specAt S111 n) → Option (denL [tFd])) (t3 : Int) (h0 : (Option (Bk × Unit))) (h1 : Wy) (h2 : (List Fd)) (h3 : Fd) (h7 : Int) : seg cx86 S111 [tFd] 6000 some G 3 K111_3 ((((), ((), (t3, ()))), (((), ((), ((), ((), ())))), ())), (h0, (h1, (h2, (h3, (((), ()), (((), ((), ((), ()))), (((), ((), ())), (h7, ()))))))))) =
  bif decide (t3 < 0) then none
 else
 bif decide (Int.fdiv h7 (2 ^ min (Int.toNat t3) 64) > 0) then
  bif decide (t3 < 0) then none
  else
   bif bitF BinOp.and IntKind.i64 (Int.fdiv h7 (2 ^ min (Int.toNat t3) 64)) 1 == 1 then
    Option.bind h0 fun (y : Bk × Unit) =>
     bif decide (0 ≤ t3) && decide (t3 < (↑(List.length (Prod.fst (Prod.fst y))) : Int)) then
      bif eqD (Ty.struct [Ty.bool, Ty.int IntKind.i64]) h3 (false, 0, ()) then G 3 K111_3 ((((), (), IntKind.wrap IntKind.i64 (t3 + 1), ()), ((), (), (), (), ()), ()), h0, h1, h2, (true, Prod.fst (List.getD (Prod.fst (Prod.fst y)) (Int.toNat t3) (0, false, ())), ()), ((), ()), ((), (), (), ()), ((), (), ()), h7, ())
      else G 3 K111_3 ((((), (), IntKind.wrap IntKind.i64 (t3 + 1), ()), ((), (), (), (), ()), ()), h0, h1, h2, (Prod.fst h3, IntKind.wrap IntKind.i64 (Prod.fst (Prod.snd h3) + Prod.fst (List.getD (Prod.fst (Prod.fst y)) (Int.toNat t3) (0, false, ()))), ()), ((), ()), ((), (), (), ()), ((), (), ()), h7, ())
     else none
   else G 3 K111_3 ((((), (), IntKind.wrap IntKind.i64 (t3 + 1), ()), ((), (), (), (), ()), ()), h0, h1, h2, h3, ((), ()), ((), (), (), ()), ((), (), ()), h7, ())
 else G 4 K111_4 ((((), (), 0, ()), ((), ()), ()), h2, h3, ((), ()), ((), (), (), ()), ((), (), (), ()), Prod.fst (Prod.snd (Prod.snd h1)), ()) := by kernel_rfl
theorem Q111_4 (G : (n : Nat) → Kept → denK (specAt S111 n) → Option (denL [tFd])) (t3 : Int) (h0 : (List Fd)) (h1 : Fd) (h5 : Int) : seg cx86 S111 [tFd] 6000 some G 4 K111_4 ((((), ((), (t3, ()))), (((), ()), ())), (h0, (h1, (((), ()), (((), ((), ((), ()))), (((), ((), ((), ()))), (h5, ()))))))) =
  bif decide (t3 < 0) then none
 else
 bif decide (Int.fdiv h5 (2 ^ min (Int.toNat t3) 64) > 0) then
  bif decide (t3 < 0) then none
  else
   bif bitF BinOp.and IntKind.i64 (Int.fdiv h5 (2 ^ min (Int.toNat t3) 64)) 1 == 1 then
    bif decide (0 ≤ t3) && decide (t3 < 6) then
     bif decide (Int.toNat t3 < 6) then
      bif !Prod.fst (List.getD h0 (Int.toNat t3) (false, 0, ())) then some ((false, 0, ()), ())
      else
       bif decide (0 ≤ t3) && decide (t3 < 6) then
        bif decide (Int.toNat t3 < 6) then
         bif eqD (Ty.struct [Ty.bool, Ty.int IntKind.i64]) h1 (false, 0, ()) then G 4 K111_4 ((((), (), IntKind.wrap IntKind.i64 (t3 + 1), ()), ((), ()), ()), h0, (true, Prod.fst (Prod.snd (List.getD h0 (Int.toNat t3) (false, 0, ()))), ()), ((), ()), ((), (), (), ()), ((), (), (), ()), h5, ())
         else G 4 K111_4 ((((), (), IntKind.wrap IntKind.i64 (t3 + 1), ()), ((), ()), ()), h0, (Prod.fst h1, IntKind.wrap IntKind.i64 (Prod.fst (Prod.snd h1) + Prod.fst (Prod.snd (List.getD h0 (Int.toNat t3) (false, 0, ())))), ()), ((), ()), ((), (), (), ()), ((), (), (), ()), h5, ())
        else none
       else none
     else none
    else none
   else G 4 K111_4 ((((), (), IntKind.wrap IntKind.i64 (t3 + 1), ()), ((), ()), ()), h0, h1, ((), ()), ((), (), (), ()), ((), (), (), ()), h5, ())
 else some (h1, ()) := by kernel_rfl
theorem Q111_5 (G : (n : Nat) → Kept → denK (specAt S111 n) → Option (denL [tFd])) (t3 : Int) (h0 : (Option (Bk × Unit))) (h1 : Wy) (h2 : (List Fd)) (h3 : Fd) (h7 : Int) : seg cx86 S111 [tFd] 6000 some G 5 K111_5 ((((), ((), (t3, ()))), (((), ((), ((), ((), ())))), ())), (h0, (h1, (h2, (h3, (((), ()), (((), ((), ((), ()))), (((), ((), ())), (h7, ()))))))))) =
  bif decide (t3 < 0) then none
 else
 bif decide (Int.fdiv h7 (2 ^ min (Int.toNat t3) 64) > 0) then
  bif decide (t3 < 0) then none
  else
   bif bitF BinOp.and IntKind.i64 (Int.fdiv h7 (2 ^ min (Int.toNat t3) 64)) 1 == 1 then
    Option.bind h0 fun (y : Bk × Unit) =>
     bif decide (0 ≤ t3) && decide (t3 < (↑(List.length (Prod.fst (Prod.fst y))) : Int)) then
      bif eqD (Ty.struct [Ty.bool, Ty.int IntKind.i64]) h3 (false, 0, ()) then G 5 K111_5 ((((), (), IntKind.wrap IntKind.i64 (t3 + 1), ()), ((), (), (), (), ()), ()), h0, h1, h2, (true, Prod.fst (List.getD (Prod.fst (Prod.fst y)) (Int.toNat t3) (0, false, ())), ()), ((), ()), ((), (), (), ()), ((), (), ()), h7, ())
      else G 5 K111_5 ((((), (), IntKind.wrap IntKind.i64 (t3 + 1), ()), ((), (), (), (), ()), ()), h0, h1, h2, (Prod.fst h3, if Prod.fst (List.getD (Prod.fst (Prod.fst y)) (Int.toNat t3) (0, false, ())) > Prod.fst (Prod.snd h3) then Prod.fst (List.getD (Prod.fst (Prod.fst y)) (Int.toNat t3) (0, false, ())) else Prod.fst (Prod.snd h3), ()), ((), ()), ((), (), (), ()), ((), (), ()), h7, ())
     else none
   else G 5 K111_5 ((((), (), IntKind.wrap IntKind.i64 (t3 + 1), ()), ((), (), (), (), ()), ()), h0, h1, h2, h3, ((), ()), ((), (), (), ()), ((), (), ()), h7, ())
 else G 6 K111_6 ((((), (), 0, ()), ((), ()), ()), h2, h3, ((), ()), ((), (), (), ()), ((), (), (), ()), Prod.fst (Prod.snd (Prod.snd h1)), ()) := by kernel_rfl
theorem Q111_6 (G : (n : Nat) → Kept → denK (specAt S111 n) → Option (denL [tFd])) (t3 : Int) (h0 : (List Fd)) (h1 : Fd) (h5 : Int) : seg cx86 S111 [tFd] 6000 some G 6 K111_6 ((((), ((), (t3, ()))), (((), ()), ())), (h0, (h1, (((), ()), (((), ((), ((), ()))), (((), ((), ((), ()))), (h5, ()))))))) =
  bif decide (t3 < 0) then none
 else
 bif decide (Int.fdiv h5 (2 ^ min (Int.toNat t3) 64) > 0) then
  bif decide (t3 < 0) then none
  else
   bif bitF BinOp.and IntKind.i64 (Int.fdiv h5 (2 ^ min (Int.toNat t3) 64)) 1 == 1 then
    bif decide (0 ≤ t3) && decide (t3 < 6) then
     bif decide (Int.toNat t3 < 6) then
      bif !Prod.fst (List.getD h0 (Int.toNat t3) (false, 0, ())) then some ((false, 0, ()), ())
      else
       bif decide (0 ≤ t3) && decide (t3 < 6) then
        bif decide (Int.toNat t3 < 6) then
         bif eqD (Ty.struct [Ty.bool, Ty.int IntKind.i64]) h1 (false, 0, ()) then G 6 K111_6 ((((), (), IntKind.wrap IntKind.i64 (t3 + 1), ()), ((), ()), ()), h0, (true, Prod.fst (Prod.snd (List.getD h0 (Int.toNat t3) (false, 0, ()))), ()), ((), ()), ((), (), (), ()), ((), (), (), ()), h5, ())
         else G 6 K111_6 ((((), (), IntKind.wrap IntKind.i64 (t3 + 1), ()), ((), ()), ()), h0, (Prod.fst h1, if Prod.fst (Prod.snd (List.getD h0 (Int.toNat t3) (false, 0, ()))) > Prod.fst (Prod.snd h1) then Prod.fst (Prod.snd (List.getD h0 (Int.toNat t3) (false, 0, ()))) else Prod.fst (Prod.snd h1), ()), ((), ()), ((), (), (), ()), ((), (), (), ()), h5, ())
        else none
       else none
     else none
    else none
   else G 6 K111_6 ((((), (), IntKind.wrap IntKind.i64 (t3 + 1), ()), ((), ()), ()), h0, h1, ((), ()), ((), (), (), ()), ((), (), (), ()), h5, ())
 else some (h1, ()) := by kernel_rfl
theorem Q111_7 (G : (n : Nat) → Kept → denK (specAt S111 n) → Option (denL [tFd])) (t3 : Int) (h0 : (Option (Bk × Unit))) (h1 : Wy) (h2 : (List Fd)) (h3 : Fd) (h7 : Int) : seg cx86 S111 [tFd] 6000 some G 7 K111_7 ((((), ((), (t3, ()))), (((), ((), ((), ((), ())))), ())), (h0, (h1, (h2, (h3, (((), ()), (((), ((), ((), ()))), (((), ((), ())), (h7, ()))))))))) =
  bif decide (t3 < 0) then none
 else
 bif decide (Int.fdiv h7 (2 ^ min (Int.toNat t3) 64) > 0) then
  bif decide (t3 < 0) then none
  else
   bif bitF BinOp.and IntKind.i64 (Int.fdiv h7 (2 ^ min (Int.toNat t3) 64)) 1 == 1 then
    Option.bind h0 fun (y : Bk × Unit) =>
     bif decide (0 ≤ t3) && decide (t3 < (↑(List.length (Prod.fst (Prod.fst y))) : Int)) then
      bif eqD (Ty.struct [Ty.bool, Ty.int IntKind.i64]) h3 (false, 0, ()) then G 7 K111_7 ((((), (), IntKind.wrap IntKind.i64 (t3 + 1), ()), ((), (), (), (), ()), ()), h0, h1, h2, (true, Prod.fst (List.getD (Prod.fst (Prod.fst y)) (Int.toNat t3) (0, false, ())), ()), ((), ()), ((), (), (), ()), ((), (), ()), h7, ())
      else G 7 K111_7 ((((), (), IntKind.wrap IntKind.i64 (t3 + 1), ()), ((), (), (), (), ()), ()), h0, h1, h2, (Prod.fst h3, if Prod.fst (List.getD (Prod.fst (Prod.fst y)) (Int.toNat t3) (0, false, ())) < Prod.fst (Prod.snd h3) then Prod.fst (List.getD (Prod.fst (Prod.fst y)) (Int.toNat t3) (0, false, ())) else Prod.fst (Prod.snd h3), ()), ((), ()), ((), (), (), ()), ((), (), ()), h7, ())
     else none
   else G 7 K111_7 ((((), (), IntKind.wrap IntKind.i64 (t3 + 1), ()), ((), (), (), (), ()), ()), h0, h1, h2, h3, ((), ()), ((), (), (), ()), ((), (), ()), h7, ())
 else G 8 K111_8 ((((), (), 0, ()), ((), ()), ()), h2, h3, ((), ()), ((), (), (), ()), ((), (), (), ()), Prod.fst (Prod.snd (Prod.snd h1)), ()) := by kernel_rfl
theorem Q111_8 (G : (n : Nat) → Kept → denK (specAt S111 n) → Option (denL [tFd])) (t3 : Int) (h0 : (List Fd)) (h1 : Fd) (h5 : Int) : seg cx86 S111 [tFd] 6000 some G 8 K111_8 ((((), ((), (t3, ()))), (((), ()), ())), (h0, (h1, (((), ()), (((), ((), ((), ()))), (((), ((), ((), ()))), (h5, ()))))))) =
  bif decide (t3 < 0) then none
 else
 bif decide (Int.fdiv h5 (2 ^ min (Int.toNat t3) 64) > 0) then
  bif decide (t3 < 0) then none
  else
   bif bitF BinOp.and IntKind.i64 (Int.fdiv h5 (2 ^ min (Int.toNat t3) 64)) 1 == 1 then
    bif decide (0 ≤ t3) && decide (t3 < 6) then
     bif decide (Int.toNat t3 < 6) then
      bif !Prod.fst (List.getD h0 (Int.toNat t3) (false, 0, ())) then some ((false, 0, ()), ())
      else
       bif decide (0 ≤ t3) && decide (t3 < 6) then
        bif decide (Int.toNat t3 < 6) then
         bif eqD (Ty.struct [Ty.bool, Ty.int IntKind.i64]) h1 (false, 0, ()) then G 8 K111_8 ((((), (), IntKind.wrap IntKind.i64 (t3 + 1), ()), ((), ()), ()), h0, (true, Prod.fst (Prod.snd (List.getD h0 (Int.toNat t3) (false, 0, ()))), ()), ((), ()), ((), (), (), ()), ((), (), (), ()), h5, ())
         else G 8 K111_8 ((((), (), IntKind.wrap IntKind.i64 (t3 + 1), ()), ((), ()), ()), h0, (Prod.fst h1, if Prod.fst (Prod.snd (List.getD h0 (Int.toNat t3) (false, 0, ()))) < Prod.fst (Prod.snd h1) then Prod.fst (Prod.snd (List.getD h0 (Int.toNat t3) (false, 0, ()))) else Prod.fst (Prod.snd h1), ()), ((), ()), ((), (), (), ()), ((), (), (), ()), h5, ())
        else none
       else none
     else none
    else none
   else G 8 K111_8 ((((), (), IntKind.wrap IntKind.i64 (t3 + 1), ()), ((), ()), ()), h0, h1, ((), ()), ((), (), (), ()), ((), (), (), ()), h5, ())
 else some (h1, ()) := by kernel_rfl
noncomputable def F111 : denL [(.hnd 0 (.struct [tBk])), tWy, (.int .i64), (.arr 6 tFd)] → Option (denL [tFd]) := ghost cx86 S111 6000 111 [(.hnd 0 (.struct [tBk])), tWy, (.int .i64), (.arr 6 tFd)] [tFd]
noncomputable def C111 : Con := ⟨[(.hnd 0 (.struct [tBk])), tWy, (.int .i64), (.arr 6 tFd)], [tFd], F111⟩
noncomputable def cx111 : Ctx := cx86.add 111 C111
def S85 : List Gh.Spec := [{ key := (0, 85, 6, 1), frs := [{ fn := 85, n := 61, regs := [(0, (.dat (.hnd 0 (.struct [tBk])))), (1, (.dat (.int .i64))), (4, (.ptr 850004 [])), (7, (.ptr 850007 [])), (28, (.dat (.slice (.slice tWy)))), (29, (.dat (.int .i64))), (30, (.dat (.int .i64)))], round := none, defers := [] }], heap := [(850004, .box (.dat (.arr 6 tFd)) false), (850007, .box (.dat (.arr 6 tFd)) false)] }, { key := (0, 85, 9, 1), frs := [{ fn := 85, n := 61, regs := [(0, (.dat (.hnd 0 (.struct [tBk])))), (1, (.dat (.int .i64))), (4, (.ptr 850004 [])), (7, (.ptr 850007 [])), (8, (.dat (.int .i64))), (28, (.dat (.slice (.slice tWy)))), (29, (.dat (.int .i64))), (30, (.dat (.int .i64))), (35, (.dat (.slice tWy))), (36, (.dat (.int .i64))), (37, (.dat (.int .i64)))], round := none, defers := [] }], heap := [(850004, .box (.dat (.arr 6 tFd)) false), (850007, .box (.dat (.arr 6 tFd)) false)] }]
noncomputable def K85_0 : Kept := { todos := [[.inLoop (cAt Try.f85 [1, 1, 1, 0, 1, 0, 0]), .inBlock 0, .code (cAt Try.f85 [1, 1, 1, 1])]], cs := [noCodes, noCodes] }
noncomputable def K85_1 : Kept := { todos := [[.inLoop (cAt Try.f85 [1, 1, 1, 0, 1, 0, 0, 1, 1, 0, 0, 1, 0, 1, 1, 0, 0]), .inBlock 2, .inScope (cAt Try.f85 [1, 1, 1, 0, 1, 0, 0, 1, 1, 0, 0, 1, 0]), .inBlock 1, .code (cAt Try.f85 [1, 1, 1, 0, 1, 0, 0, 1, 1, 1]), .inLoop (cAt Try.f85 [1, 1, 1, 0, 1, 0, 0]), .inBlock 0, .code (cAt Try.f85 [1, 1, 1, 1])]], cs := [noCodes, noCodes] }
theorem E85 (G : (n : Nat) → Kept → denK (specAt S85 n) → Option (denL [(.arr 6 tFd)])) (t0 : (Option (Bk × Unit))) (t1 : Int) : enter cx111 S85 [(.arr 6 tFd)] 6000 some G 85 [(.hnd 0 (.struct [tBk])), (.int .i64)] (t0, (t1, ())) =
  Option.bind t0 fun (y : Bk × Unit) =>
 dem (Option.bind t0 fun (y : Bk × Unit) => G 0 K85_0 (((t0, t1, (), (), Prod.fst (Prod.snd (Prod.fst y)), (↑(List.length (Prod.fst (Prod.snd (Prod.fst y)))) : Int), 0, ()), ()), List.replicate 6 (false, 0, ()), List.replicate 6 (false, 0, ()), ())) (some (allP (Prod.fst y) t1, ())) := by kernel_rfl
theorem Q85_0 (G : (n : Nat) → Kept → denK (specAt S85 n) → Option (denL [(.arr 6 tFd)])) (t0 : (Option (Bk × Unit))) (t1 : Int) (t28 : (List (List Wy))) (t29 : Int) (t30 : Int) (h0 : (List Fd)) (h1 : (List Fd)) : seg cx111 S85 [(.arr 6 tFd)] 6000 some G 0 K85_0 (((t0, (t1, ((), ((), (t28, (t29, (t30, ()))))))), ()), (h0, (h1, ()))) =
  bif decide (t30 < t29) then bif decide (0 ≤ t30) && decide (t30 < (↑(List.length t28) : Int)) then G 1 K85_1 (((t0, t1, (), (), t30, t28, t29, t30, List.getD t28 (Int.toNat t30) [], (↑(List.length (List.getD t28 (Int.toNat t30) [])) : Int), 0, ()), ()), h0, h1, ()) else none
 else
 Option.bind t0 fun (y : Bk × Unit) =>
  guardP (Memo.f (Memo.mk 106 [Ty.struct [Ty.slice (Ty.struct [Ty.int IntKind.i64, Ty.bool]), Ty.slice (Ty.slice (Ty.struct [Ty.int IntKind.i64, Ty.int IntKind.i64, Ty.int IntKind.i64]))]] 104 (Ty.int IntKind.i64) (Ty.arr 6 (Ty.struct [Ty.bool, Ty.int IntKind.i64])) allF) y t1 = some h1) (some (h1, ())) := by kernel_rfl
theorem Q85_1 (G : (n : Nat) → Kept → denK (specAt S85 n) → Option (denL [(.arr 6 tFd)])) (t0 : (Option (Bk × Unit))) (t1 : Int) (t8 : Int) (t28 : (List (List Wy))) (t29 : Int) (t30 : Int) (t35 : (List Wy)) (t36 : Int) (t37 : Int) (h0 : (List Fd)) (h1 : (List Fd)) : seg cx111 S85 [(.arr 6 tFd)] 6000 some G 1 K85_1 (((t0, (t1, ((), ((), (t8, (t28, (t29, (t30, (t35, (t36, (t37, ()))))))))))), ()), (h0, (h1, ()))) =
  bif decide (t37 < t36) then
 bif decide (0 ≤ t37) && decide (t37 < (↑(List.length t35) : Int)) then
  Option.bind (F111 (t0, List.getD t35 (Int.toNat t37) (0, 0, 0, ()), t1, h1, ())) fun (y : Fd × Unit) =>
   bif !Prod.fst (Prod.fst y) then G 1 K85_1 (((t0, t1, (), (), t8, t28, t29, t30, t35, t36, IntKind.wrap IntKind.i64 (t37 + 1), ()), ()), h0, h1, ()) else bif decide (0 ≤ t8) && decide (t8 < 6) then bif decide (Int.toNat t8 < 6) then G 0 K85_0 (((t0, t1, (), (), t28, t29, IntKind.wrap IntKind.i64 (t30 + 1), ()), ()), h0, List.set h1 (Int.toNat t8) (Prod.fst y), ()) else none else none
 else none
 else G 0 K85_0 (((t0, t1, (), (), t28, t29, IntKind.wrap IntKind.i64 (t30 + 1), ()), ()), h0, h1, ()) := by kernel_rfl
noncomputable def F85 : denL [(.hnd 0 (.struct [tBk])), (.int .i64)] → Option (denL [(.arr 6 tFd)]) := ghost cx111 S85 6000 85 [(.hnd 0 (.struct [tBk])), (.int .i64)] [(.arr 6 tFd)]
noncomputable def C85 : Con := ⟨[(.hnd 0 (.struct [tBk])), (.int .i64)], [(.arr 6 tFd)], F85⟩
noncomputable def cx85 : Ctx := cx111.add 85 C85
def S18 : List Gh.Spec := [{ key := (4, 76, 4, 1), frs := [{ fn := 76, n := 35, regs := [(3, (.fn 77 [] [])), (19, (.dat (.slice (.struct [(.int .i64), .bool])))), (20, (.dat (.int .i64))), (21, (.dat (.int .i64)))], round := none, defers := [] }, { fn := 18, n := 26, regs := [(1, (.ptr 180001 [])), (7, (.dat (.slice (.struct [(.int .i64), .bool]))))], round := none, defers := [] }], heap := [(180001, .box (.dat tBk) false)] }, { key := (7, 79, 4, 1), frs := [{ fn := 79, n := 35, regs := [(3, (.fn 80 [] [(.ptr 180001 [])])), (19, (.dat (.slice (.slice tWy)))), (20, (.dat (.int .i64))), (21, (.dat (.int .i64)))], round := none, defers := [] }, { fn := 18, n := 26, regs := [(17, (.dat (.slice (.slice tWy)))), (18, (.fn 80 [] [(.ptr 180001 [])]))], round := none, defers := [] }], heap := [(180001, .box (.dat tBk) false)] }, { key := (7000051000094, 81, 4, 1), frs := [{ fn := 81, n := 35, regs := [(3, (.fn 82 [] [(.ptr 180001 []), (.ptr 20800003 [])])), (19, (.dat (.slice tWy))), (20, (.dat (.int .i64))), (21, (.dat (.int .i64)))], round := none, defers := [] }, { fn := 80, n := 15, regs := [(9, (.dat (.slice tWy))), (10, (.fn 82 [] [(.ptr 180001 []), (.ptr 20800003 [])]))], round := none, defers := [] }, { fn := 79, n := 35, regs := [(3, (.fn 80 [] [(.ptr 180001 [])])), (10, (.dat (.int .i64))), (19, (.dat (.slice (.slice tWy)))), (20, (.dat (.int .i64))), (21, (.dat (.int .i64))), (26, (.fn 80 [] [(.ptr 180001 [])])), (27, (.dat (.int .i64))), (28, (.dat (.slice tWy)))], round := none, defers := [] }, { fn := 18, n := 26, regs := [(17, (.dat (.slice (.slice tWy)))), (18, (.fn 80 [] [(.ptr 180001 [])]))], round := none, defers := [] }], heap := [(180001, .box (.dat tBk) false), (20800003, .box (.dat (.int .i64)) false)] }]
noncomputable def K18_0 : Kept := { todos := [[.inLoop (cAt Try.f76 [1, 1, 0, 1, 0, 0]), .inBlock 0, .code (cAt Try.f76 [1, 1, 1])], [.inRegion (oAt Try.f18 [1, 0]) [2, 3, 4, 5, 6, 7], .code (cAt Try.f18 [1, 1])]], cs := [noCodes] }
noncomputable def K18_1 : Kept := { todos := [[.inLoop (cAt Try.f79 [1, 1, 0, 1, 0, 0]), .inBlock 0, .code (cAt Try.f79 [1, 1, 1])], [.inRegion (oAt Try.f18 [1, 1, 1, 0]) [3, 4, 5, 6, 7, 8], .code (cAt Try.f18 [1, 1, 1, 1])]], cs := [noCodes] }
noncomputable def K18_2 : Kept := { todos := [[.inLoop (cAt Try.f81 [1, 1, 0, 1, 0, 0]), .inBlock 0, .code (cAt Try.f81 [1, 1, 1])], [.inRegion (oAt Try.f80 [1, 0]) [2, 3, 4, 5, 6, 7], .code (cAt Try.f80 [1, 1])], [.inRegion (oAt Try.f79 [1, 1, 0, 1, 0, 0, 1, 1, 0, 0, 1, 0]) [3, 4], .code (cAt Try.f79 [1, 1, 0, 1, 0, 0, 1, 1, 0, 0, 1, 1]), .inBlock 1, .code (cAt Try.f79 [1, 1, 0, 1, 0, 0, 1, 1, 1]), .inLoop (cAt Try.f79 [1, 1, 0, 1, 0, 0]), .inBlock 0, .code (cAt Try.f79 [1, 1, 1])], [.inRegion (oAt Try.f18 [1, 1, 1, 0]) [3, 4, 5, 6, 7, 8], .code (cAt Try.f18 [1, 1, 1, 1])]], cs := [noCodes, noCodes] }
theorem E18 (G : (n : Nat) → Kept → denK (specAt S18 n) → Option (denL [(.int .i64), (.int .i64), (.int .i64)])) (t0 : Bk) : enter cx85 S18 [(.int .i64), (.int .i64), (.int .i64)] 6000 some G 18 [tBk] (t0, ()) =
  Option.bind (F78 (0, 8, List.set (List.replicate 1 0) 0 (↑(List.length (Prod.fst t0)) : Int), ())) fun (y : Bool × Unit) => bif Prod.fst y then some (1, 0, 3, ()) else G 0 K18_0 (((((), ()), Prod.fst t0, (↑(List.length (Prod.fst t0)) : Int), 0, ()), ((), Prod.fst t0, ()), ()), t0, ()) := by kernel_rfl
theorem Q18_0 (G : (n : Nat) → Kept → denK (specAt S18 n) → Option (denL [(.int .i64), (.int .i64), (.int .i64)])) (t19 : (List Rw)) (t20 : Int) (t21 : Int) (u7 : (List Rw)) (h0 : Bk) : seg cx85 S18 [(.int .i64), (.int .i64), (.int .i64)] 6000 some G 0 K18_0 (((((), ()), (t19, (t20, (t21, ())))), (((), (u7, ())), ())), (h0, ())) =
  bif decide (t21 < t20) then
 bif decide (0 ≤ t21) && decide (t21 < (↑(List.length t19) : Int)) then Option.bind (F78 (0, 99, List.set (List.replicate 1 0) 0 (Prod.fst (List.getD t19 (Int.toNat t21) (0, false, ()))), ())) fun (y : Bool × Unit) => bif Prod.fst y then some (1, t21, 7, ()) else G 0 K18_0 (((((), ()), t19, t20, IntKind.wrap IntKind.i64 (t21 + 1), ()), ((), u7, ()), ()), h0, ()) else none
 else Option.bind (F78 (0, 6, List.set (List.replicate 1 0) 0 (↑(List.length (Prod.fst (Prod.snd h0))) : Int), ())) fun (y : Bool × Unit) => bif Prod.fst y then some (2, 0, 3, ()) else G 1 K18_1 (((((), (), ()), Prod.fst (Prod.snd h0), (↑(List.length (Prod.fst (Prod.snd h0))) : Int), 0, ()), (Prod.fst (Prod.snd h0), ((), (), ()), ()), ()), h0, ()) := by kernel_rfl
theorem Q18_1 (G : (n : Nat) → Kept → denK (specAt S18 n) → Option (denL [(.int .i64), (.int .i64), (.int .i64)])) (t19 : (List (List Wy))) (t20 : Int) (t21 : Int) (u17 : (List (List Wy))) (h0 : Bk) : seg cx85 S18 [(.int .i64), (.int .i64), (.int .i64)] 6000 some G 1 K18_1 (((((), ((), ())), (t19, (t20, (t21, ())))), ((u17, (((), ((), ())), ())), ())), (h0, ())) =
  bif decide (t21 < t20) then
 bif decide (0 ≤ t21) && decide (t21 < (↑(List.length t19) : Int)) then
  Option.bind (F78 (1, 3, List.set (List.replicate 1 0) 0 (↑(List.length (List.getD t19 (Int.toNat t21) [])) : Int), ())) fun (y : Bool × Unit) =>
   bif Prod.fst y then some (2, t21, 3, ()) else G 2 K18_2 (((((), (), (), ()), List.getD t19 (Int.toNat t21) [], (↑(List.length (List.getD t19 (Int.toNat t21) [])) : Int), 0, ()), (List.getD t19 (Int.toNat t21) [], ((), (), (), ()), ()), (((), (), ()), t21, t19, t20, t21, ((), (), ()), t21, List.getD t19 (Int.toNat t21) [], ()), (u17, ((), (), ()), ()), ()), h0, t21, ())
 else none
 else some (0, 0, 0, ()) := by kernel_rfl
theorem Q18_2 (G : (n : Nat) → Kept → denK (specAt S18 n) → Option (denL [(.int .i64), (.int .i64), (.int .i64)])) (t19 : (List Wy)) (t20 : Int) (t21 : Int) (u9 : (List Wy)) (v10 : Int) (v19 : (List (List Wy))) (v20 : Int) (v21 : Int) (v27 : Int) (v28 : (List Wy)) (w17 : (List (List Wy))) (h0 : Bk) (h1 : Int) : seg cx85 S18 [(.int .i64), (.int .i64), (.int .i64)] 6000 some G 2 K18_2 (((((), ((), ((), ()))), (t19, (t20, (t21, ())))), ((u9, (((), ((), ((), ()))), ())), ((((), ((), ())), (v10, (v19, (v20, (v21, (((), ((), ())), (v27, (v28, ())))))))), ((w17, (((), ((), ())), ())), ())))), (h0, (h1, ()))) =
  bif decide (t21 < t20) then
 bif decide (0 ≤ t21) && decide (t21 < (↑(List.length t19) : Int)) then
  Option.bind (F78 (0, 2, List.set (List.replicate 1 0) 0 (Prod.fst (List.getD t19 (Int.toNat t21) (0, 0, 0, ()))), ())) fun (y : Bool × Unit) =>
   bif Prod.fst y then some (2, v10, 7, ())
   else
    Option.bind (F78 (0, IntKind.wrap IntKind.i64 (IntKind.wrap IntKind.i64 (1 * 2 ^ min (Int.toNat (↑(List.length (Prod.fst h0)) : Int)) 64) - 1), List.set (List.replicate 1 0) 0 (Prod.fst (Prod.snd (List.getD t19 (Int.toNat t21) (0, 0, 0, ())))), ())) fun (y : Bool × Unit) =>
     bif Prod.fst y then some (2, v10, 4, ())
     else
      bif decide (h1 < 0) then none
      else
       Option.bind (F78 (0, IntKind.wrap IntKind.i64 (IntKind.wrap IntKind.i64 (1 * 2 ^ min (Int.toNat h1) 64) - 1), List.set (List.replicate 1 0) 0 (Prod.fst (Prod.snd (Prod.snd (List.getD t19 (Int.toNat t21) (0, 0, 0, ()))))), ())) fun (y : Bool × Unit) =>
        bif Prod.fst y then some (2, v10, 4, ())
        else
         bif bitF BinOp.or IntKind.i64 (Prod.fst (Prod.snd (List.getD t19 (Int.toNat t21) (0, 0, 0, ())))) (Prod.fst (Prod.snd (Prod.snd (List.getD t19 (Int.toNat t21) (0, 0, 0, ()))))) == 0 then some (2, v10, 2, ())
         else G 2 K18_2 (((((), (), (), ()), t19, t20, IntKind.wrap IntKind.i64 (t21 + 1), ()), (u9, ((), (), (), ()), ()), (((), (), ()), v10, v19, v20, v21, ((), (), ()), v27, v28, ()), (w17, ((), (), ()), ()), ()), h0, h1, ())
 else none
 else G 1 K18_1 (((((), (), ()), v19, v20, IntKind.wrap IntKind.i64 (v21 + 1), ()), (w17, ((), (), ()), ()), ()), h0, ()) := by kernel_rfl
noncomputable def F18 : denL [tBk] → Option (denL [(.int .i64), (.int .i64), (.int .i64)]) := ghost cx85 S18 6000 18 [tBk] [(.int .i64), (.int .i64), (.int .i64)]
noncomputable def C18 : Con := ⟨[tBk], [(.int .i64), (.int .i64), (.int .i64)], F18⟩
noncomputable def cx18 : Ctx := cx85.add 18 C18
def S88 : List Gh.Spec := []
theorem E88 (G : (n : Nat) → Kept → denK (specAt S88 n) → Option (denL [(.hnd 0 (.struct [tBk])), (.int .i64)])) (t0 : Bk) (t1 : Int) (t2 : Int) : enter cx18 S88 [(.hnd 0 (.struct [tBk])), (.int .i64)] 6000 some G 88 [tBk, (.int .i64), (.int .i64)] (t0, (t1, (t2, ()))) =
  Option.bind (F18 (t0, ())) fun (y : Int × Int × Int × Unit) =>
 bif Prod.fst (Prod.snd (Prod.snd y)) != 0 then some (none, Prod.fst (Prod.snd (Prod.snd y)), ())
 else Option.bind (F78 (0, IntKind.wrap IntKind.i64 (t2 - 1), List.set (List.replicate 1 0) 0 t1, ())) fun (y : Bool × Unit) => bif Prod.fst y then some (none, 4, ()) else Option.bind (F112 (t0, ())) fun (y : Option (Bk × Unit) × Unit) => some (Prod.fst y, 0, ()) := by kernel_rfl
noncomputable def F88 : denL [tBk, (.int .i64), (.int .i64)] → Option (denL [(.hnd 0 (.struct [tBk])), (.int .i64)]) := ghost cx18 S88 6000 88 [tBk, (.int .i64), (.int .i64)] [(.hnd 0 (.struct [tBk])), (.int .i64)]
noncomputable def C88 : Con := ⟨[tBk, (.int .i64), (.int .i64)], [(.hnd 0 (.struct [tBk])), (.int .i64)], F88⟩
noncomputable def cx88 : Ctx := cx18.add 88 C88
def S96 : List Gh.Spec := []
theorem E96 (G : (n : Nat) → Kept → denK (specAt S96 n) → Option (denL [.bool])) (t0 : (Option (Bk × Unit))) (t1 : Int) (t2 : Int) : enter cx88 S96 [.bool] 6000 some G 96 [(.hnd 0 (.struct [tBk])), (.int .i64), (.int .i64)] (t0, (t1, (t2, ()))) =
  Option.bind (F85 (t0, t2, ())) fun (y : List Fd × Unit) => bif decide (0 ≤ t1) && decide (t1 < 6) then bif decide (Int.toNat t1 < 6) then some (Prod.fst (List.getD (Prod.fst y) (Int.toNat t1) (false, 0, ())), ()) else none else none := by kernel_rfl
noncomputable def F96 : denL [(.hnd 0 (.struct [tBk])), (.int .i64), (.int .i64)] → Option (denL [.bool]) := ghost cx88 S96 6000 96 [(.hnd 0 (.struct [tBk])), (.int .i64), (.int .i64)] [.bool]
noncomputable def C96 : Con := ⟨[(.hnd 0 (.struct [tBk])), (.int .i64), (.int .i64)], [.bool], F96⟩
noncomputable def cx96 : Ctx := cx88.add 96 C96
def S84 : List Gh.Spec := []
theorem E84 (G : (n : Nat) → Kept → denK (specAt S84 n) → Option (denL [(.hnd 0 (.struct [tBk])), (.int .i64)])) (t0 : Bk) (t1 : Int) : enter cx96 S84 [(.hnd 0 (.struct [tBk])), (.int .i64)] 6000 some G 84 [tBk, (.int .i64)] (t0, (t1, ())) =
  Option.bind (F88 (t0, t1, (↑(List.length (Prod.fst (Prod.snd t0))) : Int), ())) fun (y : Option (Bk × Unit) × Int × Unit) =>
 bif Prod.fst (Prod.snd y) != 0 then some (none, Prod.fst (Prod.snd y), ()) else Option.bind (F86 (Prod.fst y, ())) fun (y_1 : Int × Unit) => Option.bind (F96 (Prod.fst y, t1, Prod.fst y_1, ())) fun (y_2 : Bool × Unit) => bif !Prod.fst y_2 then some (none, 8, ()) else some (Prod.fst y, 0, ()) := by kernel_rfl
noncomputable def F84 : denL [tBk, (.int .i64)] → Option (denL [(.hnd 0 (.struct [tBk])), (.int .i64)]) := ghost cx96 S84 6000 84 [tBk, (.int .i64)] [(.hnd 0 (.struct [tBk])), (.int .i64)]
noncomputable def C84 : Con := ⟨[tBk, (.int .i64)], [(.hnd 0 (.struct [tBk])), (.int .i64)], F84⟩
noncomputable def cx84 : Ctx := cx96.add 84 C84
def S20 : List Gh.Spec := []
theorem E20 (G : (n : Nat) → Kept → denK (specAt S20 n) → Option (denL [(.int .i64), (.int .i64)])) (t0 : Bk) (t1 : Int) : enter cx84 S20 [(.int .i64), (.int .i64)] 6000 some G 20 [tBk, (.int .i64)] (t0, (t1, ())) =
  Option.bind (F84 (t0, t1, ())) fun (y : Option (Bk × Unit) × Int × Unit) =>
 bif Prod.fst (Prod.snd y) != 0 then some (0, Prod.fst (Prod.snd y), ())
 else Option.bind (F86 (Prod.fst y, ())) fun (y_1 : Int × Unit) => Option.bind (F85 (Prod.fst y, Prod.fst y_1, ())) fun (y : List Fd × Unit) => bif decide (0 ≤ t1) && decide (t1 < 6) then bif decide (Int.toNat t1 < 6) then some (Prod.fst (Prod.snd (List.getD (Prod.fst y) (Int.toNat t1) (false, 0, ()))), 0, ()) else none else none := by kernel_rfl
noncomputable def F20 : denL [tBk, (.int .i64)] → Option (denL [(.int .i64), (.int .i64)]) := ghost cx84 S20 6000 20 [tBk, (.int .i64)] [(.int .i64), (.int .i64)]
noncomputable def C20 : Con := ⟨[tBk, (.int .i64)], [(.int .i64), (.int .i64)], F20⟩
noncomputable def cx20 : Ctx := cx84.add 20 C20
def S89 : List Gh.Spec := [{ key := (0, 89, 3, 1), frs := [{ fn := 89, n := 74, regs := [(0, (.dat (.hnd 0 (.struct [tBk])))), (1, (.dat (.int .i64))), (8, (.ptr 890008 [])), (22, (.dat (.slice (.slice tWy)))), (23, (.dat (.int .i64))), (24, (.dat (.int .i64)))], round := none, defers := [] }], heap := [(890008, .box (.dat (.arr 6 tFd)) false)] }, { key := (0, 89, 6, 1), frs := [{ fn := 89, n := 74, regs := [(0, (.dat (.hnd 0 (.struct [tBk])))), (1, (.dat (.int .i64))), (8, (.ptr 890008 [])), (9, (.dat (.int .i64))), (10, (.dat (.slice tWy))), (22, (.dat (.slice (.slice tWy)))), (23, (.dat (.int .i64))), (24, (.dat (.int .i64))), (30, (.dat (.int .i64))), (31, (.dat (.int .i64)))], round := none, defers := [] }], heap := [(890008, .box (.dat (.arr 6 tFd)) false)] }, { key := (0, 89, 10, 1), frs := [{ fn := 89, n := 74, regs := [(0, (.dat (.hnd 0 (.struct [tBk])))), (1, (.dat (.int .i64))), (8, (.ptr 890008 [])), (9, (.dat (.int .i64))), (10, (.dat (.slice tWy))), (11, (.dat (.int .i64))), (12, (.ptr 890012 [])), (13, (.dat (.int .i64))), (22, (.dat (.slice (.slice tWy)))), (23, (.dat (.int .i64))), (24, (.dat (.int .i64))), (30, (.dat (.int .i64))), (31, (.dat (.int .i64)))], round := none, defers := [] }], heap := [(890008, .box (.dat (.arr 6 tFd)) false), (890012, .box (.dat tFd) false)] }]
noncomputable def K89_0 : Kept := { todos := [[.inLoop (cAt Try.f89 [1, 1, 0, 1, 0, 0]), .inBlock 0, .code (cAt Try.f89 [1, 1, 1])]], cs := [noCodes] }
noncomputable def K89_1 : Kept := { todos := [[.inLoop (cAt Try.f89 [1, 1, 0, 1, 0, 0, 1, 1, 0, 0, 1, 1, 0, 0]), .inBlock 2, .inBlock 1, .code (cAt Try.f89 [1, 1, 0, 1, 0, 0, 1, 1, 1]), .inLoop (cAt Try.f89 [1, 1, 0, 1, 0, 0]), .inBlock 0, .code (cAt Try.f89 [1, 1, 1])]], cs := [noCodes] }
noncomputable def K89_2 : Kept := { todos := [[.inLoop (cAt Try.f89 [1, 1, 0, 1, 0, 0, 1, 1, 0, 0, 1, 1, 0, 0, 1, 1, 0, 0, 1, 1, 1, 0, 0]), .inBlock 4, .inBlock 3, .code (cAt Try.f89 [1, 1, 0, 1, 0, 0, 1, 1, 0, 0, 1, 1, 0, 0, 1, 1, 1]), .inLoop (cAt Try.f89 [1, 1, 0, 1, 0, 0, 1, 1, 0, 0, 1, 1, 0, 0]), .inBlock 2, .inBlock 1, .code (cAt Try.f89 [1, 1, 0, 1, 0, 0, 1, 1, 1]), .inLoop (cAt Try.f89 [1, 1, 0, 1, 0, 0]), .inBlock 0, .code (cAt Try.f89 [1, 1, 1])]], cs := [noCodes, noCodes] }
theorem E89 (G : (n : Nat) → Kept → denK (specAt S89 n) → Option (denL [(.int .i64), (.int .i64), (.int .i64), .bool])) (t0 : (Option (Bk × Unit))) (t1 : Int) : enter cx20 S89 [(.int .i64), (.int .i64), (.int .i64), .bool] 6000 some G 89 [(.hnd 0 (.struct [tBk])), (.int .i64)] (t0, (t1, ())) =
  Option.bind (F85 (t0, t1, ())) fun (y : List Fd × Unit) => Option.bind t0 fun (y_1 : Bk × Unit) => G 0 K89_0 (((t0, t1, (), Prod.fst (Prod.snd (Prod.fst y_1)), (↑(List.length (Prod.fst (Prod.snd (Prod.fst y_1)))) : Int), 0, ()), ()), Prod.fst y, ()) := by kernel_rfl
theorem Q89_0 (G : (n : Nat) → Kept → denK (specAt S89 n) → Option (denL [(.int .i64), (.int .i64), (.int .i64), .bool])) (t0 : (Option (Bk × Unit))) (t1 : Int) (t22 : (List (List Wy))) (t23 : Int) (t24 : Int) (h0 : (List Fd)) : seg cx20 S89 [(.int .i64), (.int .i64), (.int .i64), .bool] 6000 some G 0 K89_0 (((t0, (t1, ((), (t22, (t23, (t24, ())))))), ()), (h0, ())) =
  bif decide (t24 < t23) then bif decide (0 ≤ t24) && decide (t24 < (↑(List.length t22) : Int)) then G 1 K89_1 (((t0, t1, (), t24, List.getD t22 (Int.toNat t24) [], t22, t23, t24, (↑(List.length (List.getD t22 (Int.toNat t24) [])) : Int), 0, ()), ()), h0, ()) else none else some (0, 0, 0, false, ()) := by kernel_rfl
theorem Q89_1 (G : (n : Nat) → Kept → denK (specAt S89 n) → Option (denL [(.int .i64), (.int .i64), (.int .i64), .bool])) (t0 : (Option (Bk × Unit))) (t1 : Int) (t9 : Int) (t10 : (List Wy)) (t22 : (List (List Wy))) (t23 : Int) (t24 : Int) (t30 : Int) (t31 : Int) (h0 : (List Fd)) : seg cx20 S89 [(.int .i64), (.int .i64), (.int .i64), .bool] 6000 some G 1 K89_1 (((t0, (t1, ((), (t9, (t10, (t22, (t23, (t24, (t30, (t31, ())))))))))), ()), (h0, ())) =
  bif decide (t31 < t30) then bif decide (0 ≤ t31) && decide (t31 < (↑(List.length t10) : Int)) then Option.bind (F111 (t0, List.getD t10 (Int.toNat t31) (0, 0, 0, ()), t1, h0, ())) fun (y : Fd × Unit) => G 2 K89_2 (((t0, t1, (), t9, t10, t31, (), IntKind.wrap IntKind.i64 (t31 + 1), t22, t23, t24, t30, t31, ()), ()), h0, Prod.fst y, ()) else none
 else G 0 K89_0 (((t0, t1, (), t22, t23, IntKind.wrap IntKind.i64 (t24 + 1), ()), ()), h0, ()) := by kernel_rfl
theorem Q89_2 (G : (n : Nat) → Kept → denK (specAt S89 n) → Option (denL [(.int .i64), (.int .i64), (.int .i64), .bool])) (t0 : (Option (Bk × Unit))) (t1 : Int) (t9 : Int) (t10 : (List Wy)) (t11 : Int) (t13 : Int) (t22 : (List (List Wy))) (t23 : Int) (t24 : Int) (t30 : Int) (t31 : Int) (h0 : (List Fd)) (h1 : Fd) : seg cx20 S89 [(.int .i64), (.int .i64), (.int .i64), .bool] 6000 some G 2 K89_2 (((t0, (t1, ((), (t9, (t10, (t11, ((), (t13, (t22, (t23, (t24, (t30, (t31, ()))))))))))))), ()), (h0, (h1, ()))) =
  bif Prod.fst h1 then
 bif decide (t13 < (↑(List.length t10) : Int)) then
  bif decide (0 ≤ t13) && decide (t13 < (↑(List.length t10) : Int)) then
   Option.bind (F111 (t0, List.getD t10 (Int.toNat t13) (0, 0, 0, ()), t1, h0, ())) fun (y : Fd × Unit) =>
    bif Prod.fst (Prod.fst y) then bif !eqD (Ty.struct [Ty.bool, Ty.int IntKind.i64]) (Prod.fst y) h1 then some (t9, t11, t13, true, ()) else G 2 K89_2 (((t0, t1, (), t9, t10, t11, (), IntKind.wrap IntKind.i64 (t13 + 1), t22, t23, t24, t30, t31, ()), ()), h0, h1, ())
    else G 2 K89_2 (((t0, t1, (), t9, t10, t11, (), IntKind.wrap IntKind.i64 (t13 + 1), t22, t23, t24, t30, t31, ()), ()), h0, h1, ())
  else none
 else G 1 K89_1 (((t0, t1, (), t9, t10, t22, t23, t24, t30, IntKind.wrap IntKind.i64 (t31 + 1), ()), ()), h0, ())
 else G 1 K89_1 (((t0, t1, (), t9, t10, t22, t23, t24, t30, IntKind.wrap IntKind.i64 (t31 + 1), ()), ()), h0, ()) := by kernel_rfl
noncomputable def F89 : denL [(.hnd 0 (.struct [tBk])), (.int .i64)] → Option (denL [(.int .i64), (.int .i64), (.int .i64), .bool]) := ghost cx20 S89 6000 89 [(.hnd 0 (.struct [tBk])), (.int .i64)] [(.int .i64), (.int .i64), (.int .i64), .bool]
noncomputable def C89 : Con := ⟨[(.hnd 0 (.struct [tBk])), (.int .i64)], [(.int .i64), (.int .i64), (.int .i64), .bool], F89⟩
noncomputable def cx89 : Ctx := cx20.add 89 C89
def S22 : List Gh.Spec := []
theorem E22 (G : (n : Nat) → Kept → denK (specAt S22 n) → Option (denL [(.int .i64), (.int .i64), (.int .i64), (.int .i64)])) (t0 : Bk) : enter cx89 S22 [(.int .i64), (.int .i64), (.int .i64), (.int .i64)] 6000 some G 22 [tBk] (t0, ()) =
  Option.bind (F88 (t0, 0, 1, ())) fun (y : Option (Bk × Unit) × Int × Unit) =>
 bif Prod.fst (Prod.snd y) != 0 then some (0, 0, 0, Prod.fst (Prod.snd y), ()) else Option.bind (F86 (Prod.fst y, ())) fun (y_1 : Int × Unit) => Option.bind (F89 (Prod.fst y, Prod.fst y_1, ())) fun (y : Int × Int × Int × Bool × Unit) => bif !Prod.fst (Prod.snd (Prod.snd (Prod.snd y))) then some (0, 0, 0, 9, ()) else some (Prod.fst y, Prod.fst (Prod.snd y), Prod.fst (Prod.snd (Prod.snd y)), 0, ()) := by kernel_rfl
noncomputable def F22 : denL [tBk] → Option (denL [(.int .i64), (.int .i64), (.int .i64), (.int .i64)]) := ghost cx89 S22 6000 22 [tBk] [(.int .i64), (.int .i64), (.int .i64), (.int .i64)]
noncomputable def C22 : Con := ⟨[tBk], [(.int .i64), (.int .i64), (.int .i64), (.int .i64)], F22⟩
noncomputable def cx22 : Ctx := cx89.add 22 C22
end Go.Proofs.Ytallblpnlefpeaa
