/- What the ghost comes to: E. Conditions: none (equations, each by computation). -/
import Derived.Test.YtjigflnjgmgmnaaDoorClC
namespace Go.Proofs.YtjigflnjgmgmnaaDoor
open Go Go.Gh Go.Proofs
def S131 : List Gh.Spec := [{ key := (0, 131, 5, 1), frs := [{ fn := 131, n := 63, regs := [(3, (.ptr 1310003 [])), (7, (.dat (.slice (.struct [(.arr 101 .bool), (.arr 101 (.struct [(.int .i64), (.int .i64)]))])))), (8, (.dat (.slice (.struct [(.arr 101 .bool), (.arr 101 (.struct [(.int .i64), (.int .i64)]))])))), (9, (.row 1310061)), (10, (.dat (.int .i64)))], round := none, defers := [] }], heap := [(1310003, .box (.dat (.struct [(.int .i64), (.slice (.struct [(.int .i64), (.int .i64)]))])) false), (1310061, .row (.struct [(.int .i64), (.int .i64)]) false)] }, { key := (0, 131, 9, 1), frs := [{ fn := 131, n := 63, regs := [(3, (.ptr 1310003 [])), (7, (.dat (.slice (.struct [(.arr 101 .bool), (.arr 101 (.struct [(.int .i64), (.int .i64)]))])))), (8, (.dat (.slice (.struct [(.arr 101 .bool), (.arr 101 (.struct [(.int .i64), (.int .i64)]))])))), (9, (.row 1310061)), (10, (.dat (.int .i64))), (11, (.ptr 1310011 [])), (12, (.dat (.int .i64)))], round := none, defers := [] }], heap := [(1310003, .box (.dat (.struct [(.int .i64), (.slice (.struct [(.int .i64), (.int .i64)]))])) false), (1310011, .box (.dat (.struct [(.int .i64), (.int .i64)])) false), (1310061, .row (.struct [(.int .i64), (.int .i64)]) false)] }]
noncomputable def K131_0 : Kept := { todos := [[.inLoop (cAt Tryd.f131 [1, 1, 1, 1, 0, 1, 0, 0]), .inBlock 0, .code (cAt Tryd.f131 [1, 1, 1, 1, 1])]], cs := [noCodes, noCodes] }
noncomputable def K131_1 : Kept := { todos := [[.inLoop (cAt Tryd.f131 [1, 1, 1, 1, 0, 1, 0, 0, 1, 0, 0, 1, 0, 1, 0, 0]), .inBlock 2, .code (cAt Tryd.f131 [1, 1, 1, 1, 0, 1, 0, 0, 1, 0, 0, 1, 1]), .inBlock 1, .code (cAt Tryd.f131 [1, 1, 1, 1, 0, 1, 0, 0, 1, 1]), .inLoop (cAt Tryd.f131 [1, 1, 1, 1, 0, 1, 0, 0]), .inBlock 0, .code (cAt Tryd.f131 [1, 1, 1, 1, 1])]], cs := [noCodes, noCodes, noCodes] }
theorem E131 (G : (n : Nat) → Kept → denK (specAt S131 n) → Option (denL [(.slice (.struct [(.int .i64), (.int .i64)]))])) (t0 : (Int × (List (Int × Int × Unit)) × Unit)) (t1 : Int) (t2 : Int) : enter cx26 S131 [(.slice (.struct [(.int .i64), (.int .i64)]))] 6000 some G 131 [(.struct [(.int .i64), (.slice (.struct [(.int .i64), (.int .i64)]))]), (.int .i64), (.int .i64)] (t0, (t1, (t2, ()))) =
    Option.bind (F55 (t0, t1, t2, ())) fun (y : (Int × List (Int × Int × Unit) × Unit) × Unit) =>
  Option.bind (F116 (Prod.fst y, ())) fun (y_1 : List (List Bool × List (Int × Int × Unit) × Unit) × Unit) => Option.bind (F62 (Prod.fst y, ())) fun (y_2 : (Int × List (Int × Int × Unit) × Unit) × Unit) => Option.bind (F116 (Prod.fst y_2, ())) fun (y_3 : List (List Bool × List (Int × Int × Unit) × Unit) × Unit) => G 0 K131_0 ((((), Prod.fst y_1, Prod.fst y_3, (), 0, ()), ()), Prod.fst y, [], ()) := by kernel_rfl
theorem Q131_0 (G : (n : Nat) → Kept → denK (specAt S131 n) → Option (denL [(.slice (.struct [(.int .i64), (.int .i64)]))])) (t7 : (List ((List Bool) × (List (Int × Int × Unit)) × Unit))) (t8 : (List ((List Bool) × (List (Int × Int × Unit)) × Unit))) (t10 : Int) (h0 : (Int × (List (Int × Int × Unit)) × Unit)) (h1 : (List (Int × Int × Unit))) : seg cx26 S131 [(.slice (.struct [(.int .i64), (.int .i64)]))] 6000 some G 0 K131_0 ((((), (t7, (t8, ((), (t10, ()))))), ()), (h0, (h1, ()))) =
    bif decide (t10 < (↑(List.length (Prod.fst (Prod.snd h0))) : Int)) then G 1 K131_1 ((((), t7, t8, (), t10, (), 0, ()), ()), h0, (101, -1, ()), h1, ()) else some (h1, ()) := by kernel_rfl
theorem Q131_1 (G : (n : Nat) → Kept → denK (specAt S131 n) → Option (denL [(.slice (.struct [(.int .i64), (.int .i64)]))])) (t7 : (List ((List Bool) × (List (Int × Int × Unit)) × Unit))) (t8 : (List ((List Bool) × (List (Int × Int × Unit)) × Unit))) (t10 : Int) (t12 : Int) (h0 : (Int × (List (Int × Int × Unit)) × Unit)) (h1 : (Int × Int × Unit)) (h2 : (List (Int × Int × Unit))) : seg cx26 S131 [(.slice (.struct [(.int .i64), (.int .i64)]))] 6000 some G 1 K131_1 ((((), (t7, (t8, ((), (t10, ((), (t12, ()))))))), ()), (h0, (h1, (h2, ())))) =
    bif decide (t12 ≤ 100) then
  bif decide (0 ≤ t10) && decide (t10 < (↑(List.length t7) : Int)) then
    bif decide (0 ≤ t12) && decide (t12 < 101) then
      bif List.getD (Prod.fst (List.getD t7 (Int.toNat t10) (List.replicate 101 false, List.replicate 101 (0, 0, ()), ()))) (Int.toNat t12) false then
        bif decide (0 ≤ IntKind.wrap IntKind.i64 (IntKind.wrap IntKind.i64 ((↑(List.length (Prod.fst (Prod.snd h0))) : Int) - 1) - t10)) && decide (IntKind.wrap IntKind.i64 (IntKind.wrap IntKind.i64 ((↑(List.length (Prod.fst (Prod.snd h0))) : Int) - 1) - t10) < (↑(List.length t8) : Int)) then
          bif decide (0 ≤ t12) && decide (t12 < 101) then
            bif List.getD (Prod.fst (List.getD t8 (Int.toNat (IntKind.wrap IntKind.i64 (IntKind.wrap IntKind.i64 ((↑(List.length (Prod.fst (Prod.snd h0))) : Int) - 1) - t10))) (List.replicate 101 false, List.replicate 101 (0, 0, ()), ()))) (Int.toNat t12) false then
              Option.bind (F117 (h1, t12, ())) fun (y : (Int × Int × Unit) × Unit) => G 1 K131_1 ((((), t7, t8, (), t10, (), IntKind.wrap IntKind.i64 (t12 + 1), ()), ()), h0, Prod.fst y, h2, ())
            else G 1 K131_1 ((((), t7, t8, (), t10, (), IntKind.wrap IntKind.i64 (t12 + 1), ()), ()), h0, h1, h2, ())
          else none
        else none
      else G 1 K131_1 ((((), t7, t8, (), t10, (), IntKind.wrap IntKind.i64 (t12 + 1), ()), ()), h0, h1, h2, ())
    else none
  else none
  else bif decide (List.length h2 + List.length (List.set (List.replicate 1 (0, 0, ())) 0 h1) ≤ 2147483648) then G 0 K131_0 ((((), t7, t8, (), IntKind.wrap IntKind.i64 (t10 + 1), ()), ()), h0, h2 ++ List.set (List.replicate 1 (0, 0, ())) 0 h1, ()) else none := by kernel_rfl
noncomputable def F131 : denL [(.struct [(.int .i64), (.slice (.struct [(.int .i64), (.int .i64)]))]), (.int .i64), (.int .i64)] → Option (denL [(.slice (.struct [(.int .i64), (.int .i64)]))]) := ghost cx26 S131 6000 131 [(.struct [(.int .i64), (.slice (.struct [(.int .i64), (.int .i64)]))]), (.int .i64), (.int .i64)] [(.slice (.struct [(.int .i64), (.int .i64)]))]
noncomputable def C131 : Con := ⟨[(.struct [(.int .i64), (.slice (.struct [(.int .i64), (.int .i64)]))]), (.int .i64), (.int .i64)], [(.slice (.struct [(.int .i64), (.int .i64)]))], F131⟩
noncomputable def cx131 : Ctx := cx26.add 131 C131
def S102 : List Gh.Spec := [{ key := (0, 102, 4, 1), frs := [{ fn := 102, n := 67, regs := [(1, (.dat (.int .i64))), (2, (.ptr 1020002 [])), (6, (.dat (.slice (.int .i64)))), (7, (.dat .bool)), (8, (.dat .bool)), (9, (.dat (.int .i64)))], round := none, defers := [] }], heap := [(1020002, .box (.dat (.struct [(.int .i64), (.slice (.struct [(.int .i64), (.int .i64)]))])) false)] }, { key := (0, 102, 9, 1), frs := [{ fn := 102, n := 67, regs := [(1, (.dat (.int .i64))), (2, (.ptr 1020002 [])), (6, (.dat (.slice (.int .i64)))), (7, (.dat .bool)), (8, (.dat .bool)), (9, (.dat (.int .i64))), (10, (.dat (.slice (.struct [(.int .i64), (.int .i64)])))), (11, (.dat .bool)), (12, (.dat (.int .i64)))], round := none, defers := [] }], heap := [(1020002, .box (.dat (.struct [(.int .i64), (.slice (.struct [(.int .i64), (.int .i64)]))])) false)] }]
noncomputable def K102_0 : Kept := { todos := [[.inLoop (cAt Tryd.f102 [1, 1, 1, 0, 1, 0, 0]), .inBlock 0, .code (cAt Tryd.f102 [1, 1, 1, 1])]], cs := [noCodes] }
noncomputable def K102_1 : Kept := { todos := [[.inLoop (cAt Tryd.f102 [1, 1, 1, 0, 1, 0, 0, 1, 0, 0, 1, 1, 0, 1, 0, 0]), .inBlock 2, .code (cAt Tryd.f102 [1, 1, 1, 0, 1, 0, 0, 1, 0, 0, 1, 1, 1]), .inBlock 1, .code (cAt Tryd.f102 [1, 1, 1, 0, 1, 0, 0, 1, 1]), .inLoop (cAt Tryd.f102 [1, 1, 1, 0, 1, 0, 0]), .inBlock 0, .code (cAt Tryd.f102 [1, 1, 1, 1])]], cs := [noCodes] }
theorem E102 (G : (n : Nat) → Kept → denK (specAt S102 n) → Option (denL [.bool, .bool])) (t0 : (Int × (List (Int × Int × Unit)) × Unit)) (t1 : Int) : enter cx131 S102 [.bool, .bool] 6000 some G 102 [(.struct [(.int .i64), (.slice (.struct [(.int .i64), (.int .i64)]))]), (.int .i64)] (t0, (t1, ())) =
    Option.bind (F61 (t0, t1, ())) fun (y : List Int × Unit) => G 0 K102_0 (((t1, (), Prod.fst y, true, false, 0, ()), ()), t0, ()) := by kernel_rfl
theorem Q102_0 (G : (n : Nat) → Kept → denK (specAt S102 n) → Option (denL [.bool, .bool])) (t1 : Int) (t6 : (List Int)) (t7 : Bool) (t8 : Bool) (t9 : Int) (h0 : (Int × (List (Int × Int × Unit)) × Unit)) : seg cx131 S102 [.bool, .bool] 6000 some G 0 K102_0 (((t1, ((), (t6, (t7, (t8, (t9, ())))))), ()), (h0, ())) =
    bif decide (t9 < (↑(List.length t6) : Int)) then bif decide (0 ≤ t9) && decide (t9 < (↑(List.length t6) : Int)) then Option.bind (F131 (h0, t1, List.getD t6 (Int.toNat t9) 0, ())) fun (y : List (Int × Int × Unit) × Unit) => G 1 K102_1 (((t1, (), t6, t7, t8, t9, Prod.fst y, true, 0, ()), ()), h0, ()) else none else some (t7, t8, ()) := by kernel_rfl
theorem Q102_1 (G : (n : Nat) → Kept → denK (specAt S102 n) → Option (denL [.bool, .bool])) (t1 : Int) (t6 : (List Int)) (t7 : Bool) (t8 : Bool) (t9 : Int) (t10 : (List (Int × Int × Unit))) (t11 : Bool) (t12 : Int) (h0 : (Int × (List (Int × Int × Unit)) × Unit)) : seg cx131 S102 [.bool, .bool] 6000 some G 1 K102_1 (((t1, ((), (t6, (t7, (t8, (t9, (t10, (t11, (t12, ()))))))))), ()), (h0, ())) =
    bif decide (t12 < (↑(List.length t10) : Int)) then
  bif t7 then
    bif decide (0 ≤ t12) && decide (t12 < (↑(List.length t10) : Int)) then
      bif decide (0 ≤ t9) && decide (t9 < (↑(List.length t6) : Int)) then
        bif t11 then
          bif decide (0 ≤ t12) && decide (t12 < (↑(List.length t10) : Int)) then
            bif decide (0 ≤ t9) && decide (t9 < (↑(List.length t6) : Int)) then G 1 K102_1 (((t1, (), t6, decide (Prod.fst (Prod.snd (List.getD t10 (Int.toNat t12) (0, 0, ()))) ≤ List.getD t6 (Int.toNat t9) 0), t8, t9, t10, decide (Prod.fst (List.getD t10 (Int.toNat t12) (0, 0, ())) ≤ List.getD t6 (Int.toNat t9) 0), IntKind.wrap IntKind.i64 (t12 + 1), ()), ()), h0, ()) else none
          else none
        else G 1 K102_1 (((t1, (), t6, decide (Prod.fst (Prod.snd (List.getD t10 (Int.toNat t12) (0, 0, ()))) ≤ List.getD t6 (Int.toNat t9) 0), t8, t9, t10, false, IntKind.wrap IntKind.i64 (t12 + 1), ()), ()), h0, ())
      else none
    else none
  else
    bif t11 then bif decide (0 ≤ t12) && decide (t12 < (↑(List.length t10) : Int)) then bif decide (0 ≤ t9) && decide (t9 < (↑(List.length t6) : Int)) then G 1 K102_1 (((t1, (), t6, false, t8, t9, t10, decide (Prod.fst (List.getD t10 (Int.toNat t12) (0, 0, ())) ≤ List.getD t6 (Int.toNat t9) 0), IntKind.wrap IntKind.i64 (t12 + 1), ()), ()), h0, ()) else none else none
    else G 1 K102_1 (((t1, (), t6, false, t8, t9, t10, false, IntKind.wrap IntKind.i64 (t12 + 1), ()), ()), h0, ())
  else bif t8 then G 0 K102_0 (((t1, (), t6, t7, true, IntKind.wrap IntKind.i64 (t9 + 1), ()), ()), h0, ()) else G 0 K102_0 (((t1, (), t6, t7, t11, IntKind.wrap IntKind.i64 (t9 + 1), ()), ()), h0, ()) := by kernel_rfl
noncomputable def F102 : denL [(.struct [(.int .i64), (.slice (.struct [(.int .i64), (.int .i64)]))]), (.int .i64)] → Option (denL [.bool, .bool]) := ghost cx131 S102 6000 102 [(.struct [(.int .i64), (.slice (.struct [(.int .i64), (.int .i64)]))]), (.int .i64)] [.bool, .bool]
noncomputable def C102 : Con := ⟨[(.struct [(.int .i64), (.slice (.struct [(.int .i64), (.int .i64)]))]), (.int .i64)], [.bool, .bool], F102⟩
noncomputable def cx102 : Ctx := cx131.add 102 C102
def S29 : List Gh.Spec := [{ key := (0, 29, 7, 1), frs := [{ fn := 29, n := 50, regs := [(1, (.ptr 290001 [])), (8, (.row 290042)), (9, (.row 290047)), (10, (.dat (.int .i64)))], round := none, defers := [] }], heap := [(290001, .box (.dat (.struct [(.int .i64), (.slice (.struct [(.int .i64), (.int .i64)]))])) false), (290042, .row (.int .i64) false), (290047, .row (.int .i64) false)] }]
noncomputable def K29_0 : Kept := { todos := [[.inLoop (cAt Tryd.f29 [1, 1, 1, 1, 1, 0, 1, 0, 0]), .inBlock 0, .code (cAt Tryd.f29 [1, 1, 1, 1, 1, 1])]], cs := [noCodes, noCodes, noCodes] }
theorem E29 (G : (n : Nat) → Kept → denK (specAt S29 n) → Option (denL [(.slice (.int .i64)), (.slice (.int .i64)), (.int .i64)])) (t0 : (Int × (List (Int × Int × Unit)) × Unit)) : enter cx102 S29 [(.slice (.int .i64)), (.slice (.int .i64)), (.int .i64)] 6000 some G 29 [(.struct [(.int .i64), (.slice (.struct [(.int .i64), (.int .i64)]))])] (t0, ()) =
    Option.bind (F19 (t0, ())) fun (y : Int × Int × Int × Unit) => Option.bind (F89 (t0, Prod.fst (Prod.snd (Prod.snd y)), ())) fun (y : Int × Unit) => bif Prod.fst y != 0 then some ([], [], Prod.fst y, ()) else G 0 K29_0 ((((), (), (), 0, ()), ()), t0, [], [], ()) := by kernel_rfl
theorem Q29_0 (G : (n : Nat) → Kept → denK (specAt S29 n) → Option (denL [(.slice (.int .i64)), (.slice (.int .i64)), (.int .i64)])) (t10 : Int) (h0 : (Int × (List (Int × Int × Unit)) × Unit)) (h1 : (List Int)) (h2 : (List Int)) : seg cx102 S29 [(.slice (.int .i64)), (.slice (.int .i64)), (.int .i64)] 6000 some G 0 K29_0 ((((), ((), ((), (t10, ())))), ()), (h0, (h1, (h2, ())))) =
    bif decide (t10 < (↑(List.length (Prod.fst (Prod.snd h0))) : Int)) then
  Option.bind (F102 (h0, t10, ())) fun (y : Bool × Bool × Unit) =>
    bif Prod.fst y then
      bif decide (List.length h1 + List.length (List.set (List.replicate 1 0) 0 t10) ≤ 2147483648) then
        bif Prod.fst (Prod.snd y) then bif decide (List.length h2 + List.length (List.set (List.replicate 1 0) 0 t10) ≤ 2147483648) then G 0 K29_0 ((((), (), (), IntKind.wrap IntKind.i64 (t10 + 1), ()), ()), h0, h1 ++ List.set (List.replicate 1 0) 0 t10, h2 ++ List.set (List.replicate 1 0) 0 t10, ()) else none
        else G 0 K29_0 ((((), (), (), IntKind.wrap IntKind.i64 (t10 + 1), ()), ()), h0, h1 ++ List.set (List.replicate 1 0) 0 t10, h2, ())
      else none
    else bif Prod.fst (Prod.snd y) then bif decide (List.length h2 + List.length (List.set (List.replicate 1 0) 0 t10) ≤ 2147483648) then G 0 K29_0 ((((), (), (), IntKind.wrap IntKind.i64 (t10 + 1), ()), ()), h0, h1, h2 ++ List.set (List.replicate 1 0) 0 t10, ()) else none else G 0 K29_0 ((((), (), (), IntKind.wrap IntKind.i64 (t10 + 1), ()), ()), h0, h1, h2, ())
  else some (h1, h2, 0, ()) := by kernel_rfl
noncomputable def F29 : denL [(.struct [(.int .i64), (.slice (.struct [(.int .i64), (.int .i64)]))])] → Option (denL [(.slice (.int .i64)), (.slice (.int .i64)), (.int .i64)]) := ghost cx102 S29 6000 29 [(.struct [(.int .i64), (.slice (.struct [(.int .i64), (.int .i64)]))])] [(.slice (.int .i64)), (.slice (.int .i64)), (.int .i64)]
noncomputable def C29 : Con := ⟨[(.struct [(.int .i64), (.slice (.struct [(.int .i64), (.int .i64)]))])], [(.slice (.int .i64)), (.slice (.int .i64)), (.int .i64)], F29⟩
noncomputable def cx29 : Ctx := cx102.add 29 C29
def S105 : List Gh.Spec := [{ key := (0, 105, 4, 1), frs := [{ fn := 105, n := 53, regs := [(1, (.dat (.int .i64))), (2, (.ptr 1050002 [])), (6, (.dat (.slice (.int .i64)))), (7, (.dat .bool)), (8, (.dat .bool)), (9, (.dat (.int .i64)))], round := none, defers := [] }], heap := [(1050002, .box (.dat (.struct [(.int .i64), (.slice (.struct [(.int .i64), (.int .i64)]))])) false)] }]
noncomputable def K105_0 : Kept := { todos := [[.inLoop (cAt Tryd.f105 [1, 1, 1, 0, 1, 0, 0]), .inBlock 0, .code (cAt Tryd.f105 [1, 1, 1, 1])]], cs := [noCodes] }
theorem E105 (G : (n : Nat) → Kept → denK (specAt S105 n) → Option (denL [.bool, .bool])) (t0 : (Int × (List (Int × Int × Unit)) × Unit)) (t1 : Int) : enter cx29 S105 [.bool, .bool] 6000 some G 105 [(.struct [(.int .i64), (.slice (.struct [(.int .i64), (.int .i64)]))]), (.int .i64)] (t0, (t1, ())) =
    Option.bind (F61 (t0, t1, ())) fun (y : List Int × Unit) => G 0 K105_0 (((t1, (), Prod.fst y, true, false, 0, ()), ()), t0, ()) := by kernel_rfl
theorem Q105_0 (G : (n : Nat) → Kept → denK (specAt S105 n) → Option (denL [.bool, .bool])) (t1 : Int) (t6 : (List Int)) (t7 : Bool) (t8 : Bool) (t9 : Int) (h0 : (Int × (List (Int × Int × Unit)) × Unit)) : seg cx29 S105 [.bool, .bool] 6000 some G 0 K105_0 (((t1, ((), (t6, (t7, (t8, (t9, ())))))), ()), (h0, ())) =
    bif decide (t9 < (↑(List.length t6) : Int)) then
  bif decide (0 ≤ t9) && decide (t9 < (↑(List.length t6) : Int)) then
    Option.bind (F131 (h0, t1, List.getD t6 (Int.toNat t9) 0, ())) fun (y : List (Int × Int × Unit) × Unit) =>
      bif decide (0 ≤ IntKind.wrap IntKind.i64 (t1 - 1)) && decide (IntKind.wrap IntKind.i64 (t1 - 1) < (↑(List.length (Prod.fst y)) : Int)) then
        bif t7 then
          bif decide (0 ≤ t9) && decide (t9 < (↑(List.length t6) : Int)) then
            bif t8 then G 0 K105_0 (((t1, (), t6, decide (Prod.fst (Prod.snd (List.getD (Prod.fst y) (Int.toNat (IntKind.wrap IntKind.i64 (t1 - 1))) (0, 0, ()))) < List.getD t6 (Int.toNat t9) 0), true, IntKind.wrap IntKind.i64 (t9 + 1), ()), ()), h0, ())
            else
              bif decide (0 ≤ t9) && decide (t9 < (↑(List.length t6) : Int)) then
                G 0 K105_0 (((t1, (), t6, decide (Prod.fst (Prod.snd (List.getD (Prod.fst y) (Int.toNat (IntKind.wrap IntKind.i64 (t1 - 1))) (0, 0, ()))) < List.getD t6 (Int.toNat t9) 0), decide (Prod.fst (List.getD (Prod.fst y) (Int.toNat (IntKind.wrap IntKind.i64 (t1 - 1))) (0, 0, ())) < List.getD t6 (Int.toNat t9) 0), IntKind.wrap IntKind.i64 (t9 + 1), ()), ()), h0, ())
              else none
          else none
        else
          bif t8 then G 0 K105_0 (((t1, (), t6, false, true, IntKind.wrap IntKind.i64 (t9 + 1), ()), ()), h0, ())
          else bif decide (0 ≤ t9) && decide (t9 < (↑(List.length t6) : Int)) then G 0 K105_0 (((t1, (), t6, false, decide (Prod.fst (List.getD (Prod.fst y) (Int.toNat (IntKind.wrap IntKind.i64 (t1 - 1))) (0, 0, ())) < List.getD t6 (Int.toNat t9) 0), IntKind.wrap IntKind.i64 (t9 + 1), ()), ()), h0, ()) else none
      else none
  else none
  else some (t7, t8, ()) := by kernel_rfl
noncomputable def F105 : denL [(.struct [(.int .i64), (.slice (.struct [(.int .i64), (.int .i64)]))]), (.int .i64)] → Option (denL [.bool, .bool]) := ghost cx29 S105 6000 105 [(.struct [(.int .i64), (.slice (.struct [(.int .i64), (.int .i64)]))]), (.int .i64)] [.bool, .bool]
noncomputable def C105 : Con := ⟨[(.struct [(.int .i64), (.slice (.struct [(.int .i64), (.int .i64)]))]), (.int .i64)], [.bool, .bool], F105⟩
noncomputable def cx105 : Ctx := cx29.add 105 C105
def S32 : List Gh.Spec := [{ key := (0, 32, 7, 1), frs := [{ fn := 32, n := 50, regs := [(1, (.ptr 320001 [])), (8, (.row 320042)), (9, (.row 320047)), (10, (.dat (.int .i64)))], round := none, defers := [] }], heap := [(320001, .box (.dat (.struct [(.int .i64), (.slice (.struct [(.int .i64), (.int .i64)]))])) false), (320042, .row (.int .i64) false), (320047, .row (.int .i64) false)] }]
noncomputable def K32_0 : Kept := { todos := [[.inLoop (cAt Tryd.f32 [1, 1, 1, 1, 1, 0, 1, 0, 0]), .inBlock 0, .code (cAt Tryd.f32 [1, 1, 1, 1, 1, 1])]], cs := [noCodes, noCodes, noCodes] }
theorem E32 (G : (n : Nat) → Kept → denK (specAt S32 n) → Option (denL [(.slice (.int .i64)), (.slice (.int .i64)), (.int .i64)])) (t0 : (Int × (List (Int × Int × Unit)) × Unit)) : enter cx105 S32 [(.slice (.int .i64)), (.slice (.int .i64)), (.int .i64)] 6000 some G 32 [(.struct [(.int .i64), (.slice (.struct [(.int .i64), (.int .i64)]))])] (t0, ()) =
    Option.bind (F19 (t0, ())) fun (y : Int × Int × Int × Unit) => Option.bind (F89 (t0, Prod.fst (Prod.snd (Prod.snd y)), ())) fun (y : Int × Unit) => bif Prod.fst y != 0 then some ([], [], Prod.fst y, ()) else G 0 K32_0 ((((), (), (), 1, ()), ()), t0, [], [], ()) := by kernel_rfl
theorem Q32_0 (G : (n : Nat) → Kept → denK (specAt S32 n) → Option (denL [(.slice (.int .i64)), (.slice (.int .i64)), (.int .i64)])) (t10 : Int) (h0 : (Int × (List (Int × Int × Unit)) × Unit)) (h1 : (List Int)) (h2 : (List Int)) : seg cx105 S32 [(.slice (.int .i64)), (.slice (.int .i64)), (.int .i64)] 6000 some G 0 K32_0 ((((), ((), ((), (t10, ())))), ()), (h0, (h1, (h2, ())))) =
    bif decide (t10 < (↑(List.length (Prod.fst (Prod.snd h0))) : Int)) then
  Option.bind (F105 (h0, t10, ())) fun (y : Bool × Bool × Unit) =>
    bif Prod.fst y then
      bif decide (List.length h1 + List.length (List.set (List.replicate 1 0) 0 t10) ≤ 2147483648) then
        bif Prod.fst (Prod.snd y) then bif decide (List.length h2 + List.length (List.set (List.replicate 1 0) 0 t10) ≤ 2147483648) then G 0 K32_0 ((((), (), (), IntKind.wrap IntKind.i64 (t10 + 1), ()), ()), h0, h1 ++ List.set (List.replicate 1 0) 0 t10, h2 ++ List.set (List.replicate 1 0) 0 t10, ()) else none
        else G 0 K32_0 ((((), (), (), IntKind.wrap IntKind.i64 (t10 + 1), ()), ()), h0, h1 ++ List.set (List.replicate 1 0) 0 t10, h2, ())
      else none
    else bif Prod.fst (Prod.snd y) then bif decide (List.length h2 + List.length (List.set (List.replicate 1 0) 0 t10) ≤ 2147483648) then G 0 K32_0 ((((), (), (), IntKind.wrap IntKind.i64 (t10 + 1), ()), ()), h0, h1, h2 ++ List.set (List.replicate 1 0) 0 t10, ()) else none else G 0 K32_0 ((((), (), (), IntKind.wrap IntKind.i64 (t10 + 1), ()), ()), h0, h1, h2, ())
  else some (h1, h2, 0, ()) := by kernel_rfl
noncomputable def F32 : denL [(.struct [(.int .i64), (.slice (.struct [(.int .i64), (.int .i64)]))])] → Option (denL [(.slice (.int .i64)), (.slice (.int .i64)), (.int .i64)]) := ghost cx105 S32 6000 32 [(.struct [(.int .i64), (.slice (.struct [(.int .i64), (.int .i64)]))])] [(.slice (.int .i64)), (.slice (.int .i64)), (.int .i64)]
noncomputable def C32 : Con := ⟨[(.struct [(.int .i64), (.slice (.struct [(.int .i64), (.int .i64)]))])], [(.slice (.int .i64)), (.slice (.int .i64)), (.int .i64)], F32⟩
noncomputable def cx32 : Ctx := cx105.add 32 C32
def S60 : List Gh.Spec := [{ key := (0, 60, 4, 1), frs := [{ fn := 60, n := 38, regs := [(1, (.dat (.int .i64))), (2, (.ptr 600002 [])), (5, (.dat (.slice (.int .i64)))), (6, (.dat (.int .i64))), (7, (.dat (.int .i64)))], round := none, defers := [] }], heap := [(600002, .box (.dat (.struct [(.int .i64), (.slice (.struct [(.int .i64), (.int .i64)]))])) false)] }]
noncomputable def K60_0 : Kept := { todos := [[.inLoop (cAt Tryd.f60 [1, 1, 1, 0, 1, 0, 0]), .inBlock 0, .code (cAt Tryd.f60 [1, 1, 1, 1])]], cs := [noCodes] }
theorem E60 (G : (n : Nat) → Kept → denK (specAt S60 n) → Option (denL [(.int .i64)])) (t0 : (Int × (List (Int × Int × Unit)) × Unit)) (t1 : Int) : enter cx32 S60 [(.int .i64)] 6000 some G 60 [(.struct [(.int .i64), (.slice (.struct [(.int .i64), (.int .i64)]))]), (.int .i64)] (t0, (t1, ())) =
    Option.bind (F61 (t0, t1, ())) fun (y : List Int × Unit) => G 0 K60_0 (((t1, (), Prod.fst y, 0, 0, ()), ()), t0, ()) := by kernel_rfl
theorem Q60_0 (G : (n : Nat) → Kept → denK (specAt S60 n) → Option (denL [(.int .i64)])) (t1 : Int) (t5 : (List Int)) (t6 : Int) (t7 : Int) (h0 : (Int × (List (Int × Int × Unit)) × Unit)) : seg cx32 S60 [(.int .i64)] 6000 some G 0 K60_0 (((t1, ((), (t5, (t6, (t7, ()))))), ()), (h0, ())) =
    bif decide (t7 < (↑(List.length t5) : Int)) then
  bif decide (0 ≤ t7) && decide (t7 < (↑(List.length t5) : Int)) then
    Option.bind (F55 (h0, t1, List.getD t5 (Int.toNat t7) 0, ())) fun (y : (Int × List (Int × Int × Unit) × Unit) × Unit) =>
      Option.bind (F59 (Prod.fst y, ())) fun (y : (Int × Int × Unit) × Bool × Unit) => G 0 K60_0 (((t1, (), t5, if IntKind.wrap IntKind.i64 (Prod.fst (Prod.snd (Prod.fst y)) - Prod.fst (Prod.fst y)) > t6 then IntKind.wrap IntKind.i64 (Prod.fst (Prod.snd (Prod.fst y)) - Prod.fst (Prod.fst y)) else t6, IntKind.wrap IntKind.i64 (t7 + 1), ()), ()), h0, ())
  else none
  else some (t6, ()) := by kernel_rfl
noncomputable def F60 : denL [(.struct [(.int .i64), (.slice (.struct [(.int .i64), (.int .i64)]))]), (.int .i64)] → Option (denL [(.int .i64)]) := ghost cx32 S60 6000 60 [(.struct [(.int .i64), (.slice (.struct [(.int .i64), (.int .i64)]))]), (.int .i64)] [(.int .i64)]
noncomputable def C60 : Con := ⟨[(.struct [(.int .i64), (.slice (.struct [(.int .i64), (.int .i64)]))]), (.int .i64)], [(.int .i64)], F60⟩
noncomputable def cx60 : Ctx := cx32.add 60 C60
def S34 : List Gh.Spec := [{ key := (0, 34, 8, 1), frs := [{ fn := 34, n := 55, regs := [(1, (.ptr 340001 [])), (10, (.dat (.int .i64))), (11, (.dat (.int .i64))), (12, (.dat (.int .i64)))], round := none, defers := [] }], heap := [(340001, .box (.dat (.struct [(.int .i64), (.slice (.struct [(.int .i64), (.int .i64)]))])) false)] }]
noncomputable def K34_0 : Kept := { todos := [[.inLoop (cAt Tryd.f34 [1, 1, 1, 1, 1, 1, 0, 1, 0, 0]), .inBlock 0, .code (cAt Tryd.f34 [1, 1, 1, 1, 1, 1, 1])]], cs := [noCodes] }
theorem E34 (G : (n : Nat) → Kept → denK (specAt S34 n) → Option (denL [(.int .i64), (.int .i64), (.int .i64)])) (t0 : (Int × (List (Int × Int × Unit)) × Unit)) : enter cx60 S34 [(.int .i64), (.int .i64), (.int .i64)] 6000 some G 34 [(.struct [(.int .i64), (.slice (.struct [(.int .i64), (.int .i64)]))])] (t0, ()) =
    Option.bind (F19 (t0, ())) fun (y : Int × Int × Int × Unit) =>
  Option.bind (F89 (t0, Prod.fst (Prod.snd (Prod.snd y)), ())) fun (y : Int × Unit) => bif Prod.fst y != 0 then some (0, 0, Prod.fst y, ()) else Option.bind (F59 (t0, ())) fun (y : (Int × Int × Unit) × Bool × Unit) => G 0 K34_0 ((((), -1, IntKind.wrap IntKind.i64 (Prod.fst (Prod.snd (Prod.fst y)) - Prod.fst (Prod.fst y)), 0, ()), ()), t0, ()) := by kernel_rfl
theorem Q34_0 (G : (n : Nat) → Kept → denK (specAt S34 n) → Option (denL [(.int .i64), (.int .i64), (.int .i64)])) (t10 : Int) (t11 : Int) (t12 : Int) (h0 : (Int × (List (Int × Int × Unit)) × Unit)) : seg cx60 S34 [(.int .i64), (.int .i64), (.int .i64)] 6000 some G 0 K34_0 ((((), (t10, (t11, (t12, ())))), ()), (h0, ())) =
    bif decide (t12 < (↑(List.length (Prod.fst (Prod.snd h0))) : Int)) then Option.bind (F60 (h0, t12, ())) fun (y : Int × Unit) => bif decide (Prod.fst y < t11) then G 0 K34_0 ((((), t12, Prod.fst y, IntKind.wrap IntKind.i64 (t12 + 1), ()), ()), h0, ()) else G 0 K34_0 ((((), t10, t11, IntKind.wrap IntKind.i64 (t12 + 1), ()), ()), h0, ())
  else bif decide (t10 < 0) then some (0, 0, 9, ()) else some (t10, t11, 0, ()) := by kernel_rfl
noncomputable def F34 : denL [(.struct [(.int .i64), (.slice (.struct [(.int .i64), (.int .i64)]))])] → Option (denL [(.int .i64), (.int .i64), (.int .i64)]) := ghost cx60 S34 6000 34 [(.struct [(.int .i64), (.slice (.struct [(.int .i64), (.int .i64)]))])] [(.int .i64), (.int .i64), (.int .i64)]
noncomputable def C34 : Con := ⟨[(.struct [(.int .i64), (.slice (.struct [(.int .i64), (.int .i64)]))])], [(.int .i64), (.int .i64), (.int .i64)], F34⟩
noncomputable def cx34 : Ctx := cx60.add 34 C34
def S50 : List Gh.Spec := [{ key := (0, 50, 3, 1), frs := [{ fn := 50, n := 24, regs := [(1, (.ptr 500001 [])), (3, (.row 500022)), (4, (.dat (.int .i64)))], round := none, defers := [] }], heap := [(500001, .box (.dat (.struct [(.int .i64), (.slice (.struct [(.int .i64), (.int .i64)]))])) false), (500022, .row (.int .i64) false)] }]
noncomputable def K50_0 : Kept := { todos := [[.inLoop (cAt Tryd.f50 [1, 1, 0, 1, 0, 0]), .inBlock 0, .code (cAt Tryd.f50 [1, 1, 1])]], cs := [noCodes, noCodes] }
theorem E50 (G : (n : Nat) → Kept → denK (specAt S50 n) → Option (denL [(.slice (.int .i64))])) (t0 : (Int × (List (Int × Int × Unit)) × Unit)) : enter cx34 S50 [(.slice (.int .i64))] 6000 some G 50 [(.struct [(.int .i64), (.slice (.struct [(.int .i64), (.int .i64)]))])] (t0, ()) =
    G 0 K50_0 ((((), (), 0, ()), ()), t0, [], ()) := by kernel_rfl
theorem Q50_0 (G : (n : Nat) → Kept → denK (specAt S50 n) → Option (denL [(.slice (.int .i64))])) (t4 : Int) (h0 : (Int × (List (Int × Int × Unit)) × Unit)) (h1 : (List Int)) : seg cx34 S50 [(.slice (.int .i64))] 6000 some G 0 K50_0 ((((), ((), (t4, ()))), ()), (h0, (h1, ()))) =
    bif decide (t4 < (↑(List.length (Prod.fst (Prod.snd h0))) : Int)) then
  bif decide (0 ≤ t4) && decide (t4 < (↑(List.length (Prod.fst (Prod.snd h0))) : Int)) then
    bif Prod.fst (List.getD (Prod.fst (Prod.snd h0)) (Int.toNat t4) (0, 0, ())) == 3 then bif decide (List.length h1 + List.length (List.set (List.replicate 1 0) 0 t4) ≤ 2147483648) then G 0 K50_0 ((((), (), IntKind.wrap IntKind.i64 (t4 + 1), ()), ()), h0, h1 ++ List.set (List.replicate 1 0) 0 t4, ()) else none else G 0 K50_0 ((((), (), IntKind.wrap IntKind.i64 (t4 + 1), ()), ()), h0, h1, ())
  else none
  else some (h1, ()) := by kernel_rfl
noncomputable def F50 : denL [(.struct [(.int .i64), (.slice (.struct [(.int .i64), (.int .i64)]))])] → Option (denL [(.slice (.int .i64))]) := ghost cx34 S50 6000 50 [(.struct [(.int .i64), (.slice (.struct [(.int .i64), (.int .i64)]))])] [(.slice (.int .i64))]
noncomputable def C50 : Con := ⟨[(.struct [(.int .i64), (.slice (.struct [(.int .i64), (.int .i64)]))])], [(.slice (.int .i64))], F50⟩
noncomputable def cx50 : Ctx := cx34.add 50 C50
def S111 : List Gh.Spec := [{ key := (0, 111, 3, 1), frs := [{ fn := 111, n := 54, regs := [(0, (.dat (.int .i64))), (1, (.dat (.int .i64))), (5, (.dat (.slice (.slice (.int .i64))))), (6, (.dat (.int .i64)))], round := none, defers := [] }], heap := [] }, { key := (0, 111, 7, 1), frs := [{ fn := 111, n := 54, regs := [(0, (.dat (.int .i64))), (1, (.dat (.int .i64))), (5, (.dat (.slice (.slice (.int .i64))))), (6, (.dat (.int .i64))), (7, (.row 1110051)), (8, (.dat (.int .i64)))], round := none, defers := [] }], heap := [(1110051, .row (.slice (.int .i64)) false)] }, { key := (0, 111, 13, 1), frs := [{ fn := 111, n := 54, regs := [(0, (.dat (.int .i64))), (1, (.dat (.int .i64))), (5, (.dat (.slice (.slice (.int .i64))))), (6, (.dat (.int .i64))), (7, (.row 1110051)), (8, (.dat (.int .i64))), (10, (.dat (.int .i64)))], round := none, defers := [] }], heap := [(1110051, .row (.slice (.int .i64)) false)] }]
noncomputable def K111_0 : Kept := { todos := [[.inLoop (cAt Tryd.f111 [1, 1, 0, 1, 0, 0]), .inBlock 0, .code (cAt Tryd.f111 [1, 1, 1])]], cs := [] }
noncomputable def K111_1 : Kept := { todos := [[.inLoop (cAt Tryd.f111 [1, 1, 0, 1, 0, 0, 1, 0, 0, 1, 0, 1, 0, 0]), .inBlock 2, .code (cAt Tryd.f111 [1, 1, 0, 1, 0, 0, 1, 0, 0, 1, 1]), .inBlock 1, .code (cAt Tryd.f111 [1, 1, 0, 1, 0, 0, 1, 1]), .inLoop (cAt Tryd.f111 [1, 1, 0, 1, 0, 0]), .inBlock 0, .code (cAt Tryd.f111 [1, 1, 1])]], cs := [noCodes] }
noncomputable def K111_2 : Kept := { todos := [[.inLoop (cAt Tryd.f111 [1, 1, 0, 1, 0, 0, 1, 0, 0, 1, 0, 1, 0, 0, 1, 0, 0, 1, 1, 1, 0, 0]), .inBlock 4, .inBlock 3, .code (cAt Tryd.f111 [1, 1, 0, 1, 0, 0, 1, 0, 0, 1, 0, 1, 0, 0, 1, 1]), .inLoop (cAt Tryd.f111 [1, 1, 0, 1, 0, 0, 1, 0, 0, 1, 0, 1, 0, 0]), .inBlock 2, .code (cAt Tryd.f111 [1, 1, 0, 1, 0, 0, 1, 0, 0, 1, 1]), .inBlock 1, .code (cAt Tryd.f111 [1, 1, 0, 1, 0, 0, 1, 1]), .inLoop (cAt Tryd.f111 [1, 1, 0, 1, 0, 0]), .inBlock 0, .code (cAt Tryd.f111 [1, 1, 1])]], cs := [noCodes] }
theorem E111 (G : (n : Nat) → Kept → denK (specAt S111 n) → Option (denL [(.slice (.slice (.int .i64)))])) (t0 : Int) (t1 : Int) : enter cx50 S111 [(.slice (.slice (.int .i64)))] 6000 some G 111 [(.int .i64), (.int .i64)] (t0, (t1, ())) =
    G 0 K111_0 (((t0, t1, [] :: List.replicate 0 [], 0, ()), ()), ()) := by kernel_rfl
theorem Q111_0 (G : (n : Nat) → Kept → denK (specAt S111 n) → Option (denL [(.slice (.slice (.int .i64)))])) (t0 : Int) (t1 : Int) (t5 : (List (List Int))) (t6 : Int) : seg cx50 S111 [(.slice (.slice (.int .i64)))] 6000 some G 0 K111_0 (((t0, (t1, (t5, (t6, ())))), ()), ()) =
    bif decide (t6 < t1) then G 1 K111_1 (((t0, t1, t5, t6, (), 0, ()), ()), [], ()) else some (t5, ()) := by kernel_rfl
theorem Q111_1 (G : (n : Nat) → Kept → denK (specAt S111 n) → Option (denL [(.slice (.slice (.int .i64)))])) (t0 : Int) (t1 : Int) (t5 : (List (List Int))) (t6 : Int) (t8 : Int) (h0 : (List (List Int))) : seg cx50 S111 [(.slice (.slice (.int .i64)))] 6000 some G 1 K111_1 (((t0, (t1, (t5, (t6, ((), (t8, ())))))), ()), (h0, ())) =
    bif decide (t8 < (↑(List.length t5) : Int)) then
  bif decide (t6 > 0) then
    bif decide (0 ≤ t8) && decide (t8 < (↑(List.length t5) : Int)) then
      bif decide (0 ≤ IntKind.wrap IntKind.i64 (t6 - 1)) && decide (IntKind.wrap IntKind.i64 (t6 - 1) < (↑(List.length (List.getD t5 (Int.toNat t8) [])) : Int)) then G 2 K111_2 (((t0, t1, t5, t6, (), t8, IntKind.wrap IntKind.i64 (List.getD (List.getD t5 (Int.toNat t8) []) (Int.toNat (IntKind.wrap IntKind.i64 (t6 - 1))) 0 + 1), ()), ()), h0, ()) else none
    else none
  else G 2 K111_2 (((t0, t1, t5, t6, (), t8, 0, ()), ()), h0, ())
  else G 0 K111_0 (((t0, t1, h0, IntKind.wrap IntKind.i64 (t6 + 1), ()), ()), ()) := by kernel_rfl
theorem Q111_2 (G : (n : Nat) → Kept → denK (specAt S111 n) → Option (denL [(.slice (.slice (.int .i64)))])) (t0 : Int) (t1 : Int) (t5 : (List (List Int))) (t6 : Int) (t8 : Int) (t10 : Int) (h0 : (List (List Int))) : seg cx50 S111 [(.slice (.slice (.int .i64)))] 6000 some G 2 K111_2 (((t0, (t1, (t5, (t6, ((), (t8, (t10, ()))))))), ()), (h0, ())) =
    bif decide (t10 < t0) then
  bif decide (0 ≤ t8) && decide (t8 < (↑(List.length t5) : Int)) then
    bif decide (List.length (List.getD t5 (Int.toNat t8) []) ≤ 2147483648) then
      bif decide (List.length (List.getD t5 (Int.toNat t8) []) + List.length (List.set (List.replicate 1 0) 0 t10) ≤ 2147483648) then
        bif decide (List.length h0 + List.length (List.set (List.replicate 1 []) 0 (List.getD t5 (Int.toNat t8) [] ++ List.set (List.replicate 1 0) 0 t10)) ≤ 2147483648) then G 2 K111_2 (((t0, t1, t5, t6, (), t8, IntKind.wrap IntKind.i64 (t10 + 1), ()), ()), h0 ++ List.set (List.replicate 1 []) 0 (List.getD t5 (Int.toNat t8) [] ++ List.set (List.replicate 1 0) 0 t10), ()) else none
      else none
    else none
  else none
  else G 1 K111_1 (((t0, t1, t5, t6, (), IntKind.wrap IntKind.i64 (t8 + 1), ()), ()), h0, ()) := by kernel_rfl
noncomputable def F111 : denL [(.int .i64), (.int .i64)] → Option (denL [(.slice (.slice (.int .i64)))]) := ghost cx50 S111 6000 111 [(.int .i64), (.int .i64)] [(.slice (.slice (.int .i64)))]
noncomputable def C111 : Con := ⟨[(.int .i64), (.int .i64)], [(.slice (.slice (.int .i64)))], F111⟩
noncomputable def cx111 : Ctx := cx50.add 111 C111
def S52 : List Gh.Spec := [{ key := (0, 52, 3, 1), frs := [{ fn := 52, n := 26, regs := [(1, (.dat (.slice (.int .i64)))), (2, (.ptr 520002 [])), (4, (.ptr 520004 [])), (5, (.dat (.int .i64)))], round := none, defers := [] }], heap := [(520002, .box (.agg [(.dat (.int .i64)), (.row 520009)]) false), (520004, .box (.dat (.struct [(.int .i64), (.slice (.struct [(.int .i64), (.int .i64)]))])) false), (520009, .row (.struct [(.int .i64), (.int .i64)]) false)] }]
noncomputable def K52_0 : Kept := { todos := [[.inLoop (cAt Tryd.f52 [1, 1, 0, 1, 0, 0]), .inBlock 0, .code (cAt Tryd.f52 [1, 1, 1])]], cs := [noCodes, noCodes, noCodes] }
theorem E52 (G : (n : Nat) → Kept → denK (specAt S52 n) → Option (denL [(.struct [(.int .i64), (.slice (.struct [(.int .i64), (.int .i64)]))])])) (t0 : (Int × (List (Int × Int × Unit)) × Unit)) (t1 : (List Int)) : enter cx111 S52 [(.struct [(.int .i64), (.slice (.struct [(.int .i64), (.int .i64)]))])] 6000 some G 52 [(.struct [(.int .i64), (.slice (.struct [(.int .i64), (.int .i64)]))]), (.slice (.int .i64))] (t0, (t1, ())) =
    bif decide (List.length (Prod.fst (Prod.snd t0)) ≤ 2147483648) then G 0 K52_0 (((t1, (), (), 0, ()), ()), (Prod.fst t0, (), ()), (0, [], ()), Prod.fst (Prod.snd t0), ()) else none := by kernel_rfl
theorem Q52_0 (G : (n : Nat) → Kept → denK (specAt S52 n) → Option (denL [(.struct [(.int .i64), (.slice (.struct [(.int .i64), (.int .i64)]))])])) (t1 : (List Int)) (t5 : Int) (h0_0 : Int) (h1 : (Int × (List (Int × Int × Unit)) × Unit)) (h2 : (List (Int × Int × Unit))) : seg cx111 S52 [(.struct [(.int .i64), (.slice (.struct [(.int .i64), (.int .i64)]))])] 6000 some G 0 K52_0 (((t1, ((), ((), (t5, ())))), ()), ((h0_0, ((), ())), (h1, (h2, ())))) =
    bif decide (t5 < (↑(List.length t1) : Int)) then
  bif decide (0 ≤ t5) && decide (t5 < (↑(List.length t1) : Int)) then
    bif decide (0 ≤ List.getD t1 (Int.toNat t5) 0) && decide (List.getD t1 (Int.toNat t5) 0 < (↑(List.length h2) : Int)) then bif decide (Int.toNat (List.getD t1 (Int.toNat t5) 0) < List.length h2) then G 0 K52_0 (((t1, (), (), IntKind.wrap IntKind.i64 (t5 + 1), ()), ()), (h0_0, (), ()), h1, List.set h2 (Int.toNat (List.getD t1 (Int.toNat t5) 0)) (0, 0, ()), ()) else none else none
  else none
  else some ((h0_0, h2, ()), ()) := by kernel_rfl
noncomputable def F52 : denL [(.struct [(.int .i64), (.slice (.struct [(.int .i64), (.int .i64)]))]), (.slice (.int .i64))] → Option (denL [(.struct [(.int .i64), (.slice (.struct [(.int .i64), (.int .i64)]))])]) := ghost cx111 S52 6000 52 [(.struct [(.int .i64), (.slice (.struct [(.int .i64), (.int .i64)]))]), (.slice (.int .i64))] [(.struct [(.int .i64), (.slice (.struct [(.int .i64), (.int .i64)]))])]
noncomputable def C52 : Con := ⟨[(.struct [(.int .i64), (.slice (.struct [(.int .i64), (.int .i64)]))]), (.slice (.int .i64))], [(.struct [(.int .i64), (.slice (.struct [(.int .i64), (.int .i64)]))])], F52⟩
noncomputable def cx52 : Ctx := cx111.add 52 C52
def S36 : List Gh.Spec := [{ key := (0, 36, 6, 1), frs := [{ fn := 36, n := 63, regs := [(1, (.ptr 360001 [])), (7, (.dat (.slice (.int .i64)))), (8, (.dat (.int .i64)))], round := none, defers := [] }], heap := [(360001, .box (.dat (.struct [(.int .i64), (.slice (.struct [(.int .i64), (.int .i64)]))])) false)] }, { key := (0, 36, 10, 1), frs := [{ fn := 36, n := 63, regs := [(1, (.ptr 360001 [])), (7, (.dat (.slice (.int .i64)))), (8, (.dat (.int .i64))), (9, (.dat (.slice (.slice (.int .i64))))), (10, (.dat (.int .i64)))], round := none, defers := [] }], heap := [(360001, .box (.dat (.struct [(.int .i64), (.slice (.struct [(.int .i64), (.int .i64)]))])) false)] }, { key := (0, 36, 14, 1), frs := [{ fn := 36, n := 63, regs := [(1, (.ptr 360001 [])), (7, (.dat (.slice (.int .i64)))), (8, (.dat (.int .i64))), (9, (.dat (.slice (.slice (.int .i64))))), (10, (.dat (.int .i64))), (11, (.row 360057)), (12, (.dat (.int .i64)))], round := none, defers := [] }], heap := [(360001, .box (.dat (.struct [(.int .i64), (.slice (.struct [(.int .i64), (.int .i64)]))])) false), (360057, .row (.int .i64) false)] }]
noncomputable def K36_0 : Kept := { todos := [[.inLoop (cAt Tryd.f36 [1, 1, 1, 1, 0, 1, 0, 0]), .inBlock 0, .code (cAt Tryd.f36 [1, 1, 1, 1, 1])]], cs := [noCodes] }
noncomputable def K36_1 : Kept := { todos := [[.inLoop (cAt Tryd.f36 [1, 1, 1, 1, 0, 1, 0, 0, 1, 0, 0, 1, 1, 0, 0]), .inBlock 2, .inBlock 1, .code (cAt Tryd.f36 [1, 1, 1, 1, 0, 1, 0, 0, 1, 1]), .inLoop (cAt Tryd.f36 [1, 1, 1, 1, 0, 1, 0, 0]), .inBlock 0, .code (cAt Tryd.f36 [1, 1, 1, 1, 1])]], cs := [noCodes] }
noncomputable def K36_2 : Kept := { todos := [[.inLoop (cAt Tryd.f36 [1, 1, 1, 1, 0, 1, 0, 0, 1, 0, 0, 1, 1, 0, 0, 1, 0, 0, 1, 0, 1, 0, 0]), .inBlock 4, .code (cAt Tryd.f36 [1, 1, 1, 1, 0, 1, 0, 0, 1, 0, 0, 1, 1, 0, 0, 1, 0, 0, 1, 1]), .inBlock 3, .code (cAt Tryd.f36 [1, 1, 1, 1, 0, 1, 0, 0, 1, 0, 0, 1, 1, 0, 0, 1, 1]), .inLoop (cAt Tryd.f36 [1, 1, 1, 1, 0, 1, 0, 0, 1, 0, 0, 1, 1, 0, 0]), .inBlock 2, .inBlock 1, .code (cAt Tryd.f36 [1, 1, 1, 1, 0, 1, 0, 0, 1, 1]), .inLoop (cAt Tryd.f36 [1, 1, 1, 1, 0, 1, 0, 0]), .inBlock 0, .code (cAt Tryd.f36 [1, 1, 1, 1, 1])]], cs := [noCodes, noCodes] }
theorem E36 (G : (n : Nat) → Kept → denK (specAt S36 n) → Option (denL [(.slice (.int .i64)), (.int .i64)])) (t0 : (Int × (List (Int × Int × Unit)) × Unit)) : enter cx52 S36 [(.slice (.int .i64)), (.int .i64)] 6000 some G 36 [(.struct [(.int .i64), (.slice (.struct [(.int .i64), (.int .i64)]))])] (t0, ()) =
    Option.bind (F19 (t0, ())) fun (y : Int × Int × Int × Unit) => bif Prod.fst (Prod.snd (Prod.snd y)) != 0 then some ([], Prod.fst (Prod.snd (Prod.snd y)), ()) else Option.bind (F50 (t0, ())) fun (y : List Int × Unit) => G 0 K36_0 ((((), Prod.fst y, 0, ()), ()), t0, ()) := by kernel_rfl
theorem Q36_0 (G : (n : Nat) → Kept → denK (specAt S36 n) → Option (denL [(.slice (.int .i64)), (.int .i64)])) (t7 : (List Int)) (t8 : Int) (h0 : (Int × (List (Int × Int × Unit)) × Unit)) : seg cx52 S36 [(.slice (.int .i64)), (.int .i64)] 6000 some G 0 K36_0 ((((), (t7, (t8, ()))), ()), (h0, ())) =
    bif decide (t8 ≤ (↑(List.length t7) : Int)) then Option.bind (F111 ((↑(List.length t7) : Int), t8, ())) fun (y : List (List Int) × Unit) => G 1 K36_1 ((((), t7, t8, Prod.fst y, 0, ()), ()), h0, ()) else some ([], 9, ()) := by kernel_rfl
theorem Q36_1 (G : (n : Nat) → Kept → denK (specAt S36 n) → Option (denL [(.slice (.int .i64)), (.int .i64)])) (t7 : (List Int)) (t8 : Int) (t9 : (List (List Int))) (t10 : Int) (h0 : (Int × (List (Int × Int × Unit)) × Unit)) : seg cx52 S36 [(.slice (.int .i64)), (.int .i64)] 6000 some G 1 K36_1 ((((), (t7, (t8, (t9, (t10, ()))))), ()), (h0, ())) =
    bif decide (t10 < (↑(List.length t9) : Int)) then G 2 K36_2 ((((), t7, t8, t9, t10, (), 0, ()), ()), h0, [], ()) else G 0 K36_0 ((((), t7, IntKind.wrap IntKind.i64 (t8 + 1), ()), ()), h0, ()) := by kernel_rfl
theorem Q36_2 (G : (n : Nat) → Kept → denK (specAt S36 n) → Option (denL [(.slice (.int .i64)), (.int .i64)])) (t7 : (List Int)) (t8 : Int) (t9 : (List (List Int))) (t10 : Int) (t12 : Int) (h0 : (Int × (List (Int × Int × Unit)) × Unit)) (h1 : (List Int)) : seg cx52 S36 [(.slice (.int .i64)), (.int .i64)] 6000 some G 2 K36_2 ((((), (t7, (t8, (t9, (t10, ((), (t12, ()))))))), ()), (h0, (h1, ()))) =
    bif decide (t12 < t8) then
  bif decide (0 ≤ t10) && decide (t10 < (↑(List.length t9) : Int)) then
    bif decide (0 ≤ t12) && decide (t12 < (↑(List.length (List.getD t9 (Int.toNat t10) [])) : Int)) then
      bif decide (0 ≤ List.getD (List.getD t9 (Int.toNat t10) []) (Int.toNat t12) 0) && decide (List.getD (List.getD t9 (Int.toNat t10) []) (Int.toNat t12) 0 < (↑(List.length t7) : Int)) then
        bif decide (List.length h1 + List.length (List.set (List.replicate 1 0) 0 (List.getD t7 (Int.toNat (List.getD (List.getD t9 (Int.toNat t10) []) (Int.toNat t12) 0)) 0)) ≤ 2147483648) then
          G 2 K36_2 ((((), t7, t8, t9, t10, (), IntKind.wrap IntKind.i64 (t12 + 1), ()), ()), h0, h1 ++ List.set (List.replicate 1 0) 0 (List.getD t7 (Int.toNat (List.getD (List.getD t9 (Int.toNat t10) []) (Int.toNat t12) 0)) 0), ())
        else none
      else none
    else none
  else none
  else Option.bind (F52 (h0, h1, ())) fun (y : (Int × List (Int × Int × Unit) × Unit) × Unit) => Option.bind (F94 (Prod.fst y, ())) fun (y : Bool × Unit) => bif Prod.fst y then some (h1, 0, ()) else G 1 K36_1 ((((), t7, t8, t9, IntKind.wrap IntKind.i64 (t10 + 1), ()), ()), h0, ()) := by kernel_rfl
noncomputable def F36 : denL [(.struct [(.int .i64), (.slice (.struct [(.int .i64), (.int .i64)]))])] → Option (denL [(.slice (.int .i64)), (.int .i64)]) := ghost cx52 S36 6000 36 [(.struct [(.int .i64), (.slice (.struct [(.int .i64), (.int .i64)]))])] [(.slice (.int .i64)), (.int .i64)]
noncomputable def C36 : Con := ⟨[(.struct [(.int .i64), (.slice (.struct [(.int .i64), (.int .i64)]))])], [(.slice (.int .i64)), (.int .i64)], F36⟩
noncomputable def cx36 : Ctx := cx52.add 36 C36
def S30 : List Gh.Spec := [{ key := (0, 30, 3, 1), frs := [{ fn := 30, n := 31, regs := [(0, (.dat (.slice (.int .i64)))), (1, (.dat (.slice (.int .i64)))), (5, (.dat .bool)), (6, (.dat (.int .i64)))], round := none, defers := [] }], heap := [] }]
noncomputable def K30_0 : Kept := { todos := [[.inLoop (cAt Tryd.f30 [1, 1, 0, 1, 0, 0]), .inBlock 0, .code (cAt Tryd.f30 [1, 1, 1])]], cs := [] }
theorem E30 (G : (n : Nat) → Kept → denK (specAt S30 n) → Option (denL [.bool])) (t0 : (List Int)) (t1 : (List Int)) : enter cx36 S30 [.bool] 6000 some G 30 [(.slice (.int .i64)), (.slice (.int .i64))] (t0, (t1, ())) =
    G 0 K30_0 (((t0, t1, (↑(List.length t0) : Int) == (↑(List.length t1) : Int), 0, ()), ()), ()) := by kernel_rfl
theorem Q30_0 (G : (n : Nat) → Kept → denK (specAt S30 n) → Option (denL [.bool])) (t0 : (List Int)) (t1 : (List Int)) (t5 : Bool) (t6 : Int) : seg cx36 S30 [.bool] 6000 some G 0 K30_0 (((t0, (t1, (t5, (t6, ())))), ()), ()) =
    bif t5 then bif decide (t6 < (↑(List.length t0) : Int)) then bif decide (0 ≤ t6) && decide (t6 < (↑(List.length t0) : Int)) then bif decide (0 ≤ t6) && decide (t6 < (↑(List.length t1) : Int)) then G 0 K30_0 (((t0, t1, List.getD t0 (Int.toNat t6) 0 == List.getD t1 (Int.toNat t6) 0, IntKind.wrap IntKind.i64 (t6 + 1), ()), ()), ()) else none else none else some (t5, ()) else some (t5, ()) := by kernel_rfl
noncomputable def F30 : denL [(.slice (.int .i64)), (.slice (.int .i64))] → Option (denL [.bool]) := ghost cx36 S30 6000 30 [(.slice (.int .i64)), (.slice (.int .i64))] [.bool]
noncomputable def C30 : Con := ⟨[(.slice (.int .i64)), (.slice (.int .i64))], [.bool], F30⟩
noncomputable def cx30 : Ctx := cx36.add 30 C30
def S27 : List Gh.Spec := []
theorem E27 (G : (n : Nat) → Kept → denK (specAt S27 n) → Option (denL [(.struct [(.int .i64), (.slice (.struct [(.int .i64), (.int .i64)]))])])) (t0 : (Int × (List (Int × Int × Unit)) × Unit)) : enter cx30 S27 [(.struct [(.int .i64), (.slice (.struct [(.int .i64), (.int .i64)]))])] 6000 some G 27 [(.struct [(.int .i64), (.slice (.struct [(.int .i64), (.int .i64)]))])] (t0, ()) =
    bif decide ((↑(List.length (Prod.fst (Prod.snd t0))) : Int) > 7) then bif true && decide (7 ≤ (↑(List.length (Prod.fst (Prod.snd t0))) : Int)) then some ((Prod.fst t0, List.take 7 (Prod.fst (Prod.snd t0)), ()), ()) else none else some (t0, ()) := by kernel_rfl
noncomputable def F27 : denL [(.struct [(.int .i64), (.slice (.struct [(.int .i64), (.int .i64)]))])] → Option (denL [(.struct [(.int .i64), (.slice (.struct [(.int .i64), (.int .i64)]))])]) := ghost cx30 S27 6000 27 [(.struct [(.int .i64), (.slice (.struct [(.int .i64), (.int .i64)]))])] [(.struct [(.int .i64), (.slice (.struct [(.int .i64), (.int .i64)]))])]
noncomputable def C27 : Con := ⟨[(.struct [(.int .i64), (.slice (.struct [(.int .i64), (.int .i64)]))])], [(.struct [(.int .i64), (.slice (.struct [(.int .i64), (.int .i64)]))])], F27⟩
noncomputable def cx27 : Ctx := cx30.add 27 C27
end Go.Proofs.YtjigflnjgmgmnaaDoor
