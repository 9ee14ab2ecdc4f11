/- What the ghost comes to: the reference. Conditions: none (equations, each by computation). -/
import Derived.Test.YtallblpnlefpeaaRoB
namespace Go.Proofs.Ytallblpnlefpeaa
open Go Go.Gh Go.Proofs
def S51 : List Gh.Spec := []
noncomputable def F51 : denL [(.int .i64), (.int .i64), (.int .i64)] → Option (denL [.bool]) := ghost cx28 S51 6000 51 [(.int .i64), (.int .i64), (.int .i64)] [.bool]
noncomputable def C51 : Con := ⟨[(.int .i64), (.int .i64), (.int .i64)], [.bool], F51⟩
noncomputable def cx51 : Ctx := cx28.add 51 C51
def S40 : List Gh.Spec := [{ key := (0, 40, 1, 1), frs := [{ fn := 40, n := 14, regs := [(0, (.dat (.int .i64))), (1, (.dat (.int .i64)))], round := none, defers := [] }], heap := [] }]
noncomputable def F40 : denL [(.int .i64), (.int .i64)] → Option (denL [.bool]) := ghost cx51 S40 6000 40 [(.int .i64), (.int .i64)] [.bool]
noncomputable def C40 : Con := ⟨[(.int .i64), (.int .i64)], [.bool], F40⟩
noncomputable def cx40 : Ctx := cx51.add 40 C40
def S27 : List Gh.Spec := [{ key := (0, 27, 3, 1), frs := [{ fn := 27, n := 31, regs := [(0, (.dat (.slice (.int .i64)))), (1, (.dat (.slice (.int .i64)))), (5, (.dat .bool)), (6, (.dat (.int .i64)))], round := none, defers := [] }], heap := [] }]
noncomputable def K27_0 : Kept := { todos := [[.inLoop (cAt Try.f27 [1, 1, 0, 1, 0, 0]), .inBlock 0, .code (cAt Try.f27 [1, 1, 1])]], cs := [] }
theorem E27 (G : (n : Nat) → Kept → denK (specAt S27 n) → Option (denL [.bool])) (t0 : (List Int)) (t1 : (List Int)) : enter cx40 S27 [.bool] 6000 some G 27 [(.slice (.int .i64)), (.slice (.int .i64))] (t0, (t1, ())) =
  G 0 K27_0 (((t0, t1, (↑(List.length t0) : Int) == (↑(List.length t1) : Int), 0, ()), ()), ()) := by kernel_rfl
theorem Q27_0 (G : (n : Nat) → Kept → denK (specAt S27 n) → Option (denL [.bool])) (t0 : (List Int)) (t1 : (List Int)) (t5 : Bool) (t6 : Int) : seg cx40 S27 [.bool] 6000 some G 0 K27_0 (((t0, (t1, (t5, (t6, ())))), ()), ()) =
  bif t5 then bif decide (t6 < (↑(List.length t0) : Int)) then bif decide (0 ≤ t6) && decide (t6 < (↑(List.length t0) : Int)) then bif decide (0 ≤ t6) && decide (t6 < (↑(List.length t1) : Int)) then G 0 K27_0 (((t0, t1, List.getD t0 (Int.toNat t6) 0 == List.getD t1 (Int.toNat t6) 0, IntKind.wrap IntKind.i64 (t6 + 1), ()), ()), ()) else none else none else some (t5, ()) else some (t5, ()) := by kernel_rfl
noncomputable def F27 : denL [(.slice (.int .i64)), (.slice (.int .i64))] → Option (denL [.bool]) := ghost cx40 S27 6000 27 [(.slice (.int .i64)), (.slice (.int .i64))] [.bool]
noncomputable def C27 : Con := ⟨[(.slice (.int .i64)), (.slice (.int .i64))], [.bool], F27⟩
noncomputable def cx27 : Ctx := cx40.add 27 C27
def S45 : List Gh.Spec := [{ key := (0, 45, 2, 1), frs := [{ fn := 45, n := 18, regs := [(0, (.dat (.slice (.int .i64)))), (1, (.dat (.int .i64))), (5, (.dat (.int .i64)))], round := none, defers := [] }], heap := [] }]
noncomputable def F45 : denL [(.slice (.int .i64)), (.int .i64)] → Option (denL [.bool]) := ghost cx27 S45 6000 45 [(.slice (.int .i64)), (.int .i64)] [.bool]
noncomputable def C45 : Con := ⟨[(.slice (.int .i64)), (.int .i64)], [.bool], F45⟩
noncomputable def cx45 : Ctx := cx27.add 45 C45
def S110 : List Gh.Spec := [{ key := (0, 110, 3, 1), frs := [{ fn := 110, n := 14, regs := [(0, (.dat (.int .i64))), (3, (.dat (.int .i64))), (4, (.dat (.int .i64)))], round := none, defers := [] }], heap := [] }]
noncomputable def F110 : denL [(.int .i64)] → Option (denL [(.int .i64)]) := ghost cx45 S110 6000 110 [(.int .i64)] [(.int .i64)]
noncomputable def C110 : Con := ⟨[(.int .i64)], [(.int .i64)], F110⟩
noncomputable def cx110 : Ctx := cx45.add 110 C110
def S83 : List Gh.Spec := []
noncomputable def F83 : denL [tBk, (.int .i64), tWy] → Option (denL [(.int .i64)]) := ghost cx110 S83 6000 83 [tBk, (.int .i64), tWy] [(.int .i64)]
noncomputable def C83 : Con := ⟨[tBk, (.int .i64), tWy], [(.int .i64)], F83⟩
noncomputable def cx83 : Ctx := cx110.add 83 C83
def S19 : List Gh.Spec := [{ key := (0, 19, 4, 1), frs := [{ fn := 19, n := 74, regs := [(1, (.ptr 190001 [])), (5, (.dat (.int .i64)))], round := none, defers := [] }], heap := [(190001, .box (.dat tBk) false)] }, { key := (0, 19, 11, 1), frs := [{ fn := 19, n := 74, regs := [(1, (.ptr 190001 [])), (6, (.dat (.int .i64)))], round := none, defers := [] }], heap := [(190001, .box (.dat tBk) false)] }, { key := (0, 19, 16, 1), frs := [{ fn := 19, n := 74, regs := [(1, (.ptr 190001 [])), (6, (.dat (.int .i64))), (7, (.dat (.int .i64)))], round := none, defers := [] }], heap := [(190001, .box (.dat tBk) false)] }]
noncomputable def F19 : denL [tBk] → Option (denL [(.int .i64), (.int .i64), (.int .i64)]) := ghost cx83 S19 6000 19 [tBk] [(.int .i64), (.int .i64), (.int .i64)]
noncomputable def C19 : Con := ⟨[tBk], [(.int .i64), (.int .i64), (.int .i64)], F19⟩
noncomputable def cx19 : Ctx := cx83.add 19 C19
def S105 : List Gh.Spec := [{ key := (0, 105, 3, 1), frs := [{ fn := 105, n := 42, regs := [(0, (.dat (.int .i64))), (1, (.dat (.slice (.int .i64)))), (5, (.dat (.int .i64))), (6, (.dat (.int .i64)))], round := none, defers := [] }], heap := [] }]
noncomputable def F105 : denL [(.int .i64), (.slice (.int .i64))] → Option (denL [(.int .i64)]) := ghost cx19 S105 6000 105 [(.int .i64), (.slice (.int .i64))] [(.int .i64)]
noncomputable def C105 : Con := ⟨[(.int .i64), (.slice (.int .i64))], [(.int .i64)], F105⟩
noncomputable def cx105 : Ctx := cx19.add 105 C105
def S52 : List Gh.Spec := [{ key := (0, 52, 4, 1), frs := [{ fn := 52, n := 82, regs := [(2, (.dat (.slice tFd))), (3, (.ptr 520003 [])), (4, (.ptr 520004 [])), (6, (.ptr 520006 [])), (7, (.ptr 520007 [])), (8, (.row 520043)), (9, (.dat (.int .i64)))], round := none, defers := [] }], heap := [(520003, .box (.dat tBk) false), (520004, .box (.dat tWy) false), (520006, .box (.dat tFd) false), (520007, .box (.dat tFd) false), (520043, .row (.int .i64) false)] }, { key := (0, 52, 10, 1), frs := [{ fn := 52, n := 82, regs := [(2, (.dat (.slice tFd))), (4, (.ptr 520004 [])), (6, (.ptr 520006 [])), (7, (.ptr 520007 [])), (8, (.row 520043)), (10, (.dat (.int .i64)))], round := none, defers := [] }], heap := [(520004, .box (.dat tWy) false), (520006, .box (.dat tFd) false), (520007, .box (.dat tFd) false), (520043, .row (.int .i64) false)] }]
noncomputable def F52 : denL [tBk, tWy, (.slice tFd)] → Option (denL [tFd]) := ghost cx105 S52 6000 52 [tBk, tWy, (.slice tFd)] [tFd]
noncomputable def C52 : Con := ⟨[tBk, tWy, (.slice tFd)], [tFd], F52⟩
noncomputable def cx52 : Ctx := cx105.add 52 C52
def S46 : List Gh.Spec := [{ key := (0, 46, 3, 1), frs := [{ fn := 46, n := 45, regs := [(1, (.ptr 460001 [])), (3, (.row 460043)), (4, (.dat (.int .i64)))], round := none, defers := [] }], heap := [(460001, .box (.dat tBk) false), (460043, .row tFd true)] }, { key := (0, 46, 7, 1), frs := [{ fn := 46, n := 45, regs := [(1, (.ptr 460001 [])), (3, (.row 460043)), (4, (.dat (.int .i64))), (5, (.ptr 460005 [])), (6, (.dat (.int .i64)))], round := none, defers := [] }], heap := [(460001, .box (.dat tBk) false), (460005, .box (.dat tFd) false), (460043, .row tFd true)] }]
noncomputable def F46 : denL [tBk] → Option (denL [(.slice tFd)]) := ghost cx52 S46 6000 46 [tBk] [(.slice tFd)]
noncomputable def C46 : Con := ⟨[tBk], [(.slice tFd)], F46⟩
noncomputable def cx46 : Ctx := cx52.add 46 C46
def S94 : List Gh.Spec := []
noncomputable def F94 : denL [tBk, (.int .i64), (.int .i64)] → Option (denL [(.int .i64)]) := ghost cx46 S94 6000 94 [tBk, (.int .i64), (.int .i64)] [(.int .i64)]
noncomputable def C94 : Con := ⟨[tBk, (.int .i64), (.int .i64)], [(.int .i64)], F94⟩
noncomputable def cx94 : Ctx := cx46.add 94 C94
def S87 : List Gh.Spec := []
noncomputable def F87 : denL [tBk, (.int .i64)] → Option (denL [(.int .i64)]) := ghost cx94 S87 6000 87 [tBk, (.int .i64)] [(.int .i64)]
noncomputable def C87 : Con := ⟨[tBk, (.int .i64)], [(.int .i64)], F87⟩
noncomputable def cx87 : Ctx := cx94.add 87 C87
def S21 : List Gh.Spec := []
noncomputable def F21 : denL [tBk, (.int .i64)] → Option (denL [(.int .i64), (.int .i64)]) := ghost cx87 S21 6000 21 [tBk, (.int .i64)] [(.int .i64), (.int .i64)]
noncomputable def C21 : Con := ⟨[tBk, (.int .i64)], [(.int .i64), (.int .i64)], F21⟩
noncomputable def cx21 : Ctx := cx87.add 21 C21
def S23 : List Gh.Spec := [{ key := (0, 23, 6, 1), frs := [{ fn := 23, n := 87, regs := [(1, (.ptr 230001 [])), (9, (.dat (.slice tFd))), (10, (.dat (.int .i64)))], round := none, defers := [] }], heap := [(230001, .box (.dat tBk) false)] }, { key := (0, 23, 10, 1), frs := [{ fn := 23, n := 87, regs := [(1, (.ptr 230001 [])), (9, (.dat (.slice tFd))), (10, (.dat (.int .i64))), (11, (.dat (.slice tWy))), (12, (.dat (.int .i64)))], round := none, defers := [] }], heap := [(230001, .box (.dat tBk) false)] }, { key := (0, 23, 13, 1), frs := [{ fn := 23, n := 87, regs := [(1, (.ptr 230001 [])), (9, (.dat (.slice tFd))), (10, (.dat (.int .i64))), (11, (.dat (.slice tWy))), (12, (.dat (.int .i64))), (13, (.dat (.int .i64)))], round := none, defers := [] }], heap := [(230001, .box (.dat tBk) false)] }]
noncomputable def F23 : denL [tBk] → Option (denL [(.int .i64), (.int .i64), (.int .i64), (.int .i64)]) := ghost cx21 S23 6000 23 [tBk] [(.int .i64), (.int .i64), (.int .i64), (.int .i64)]
noncomputable def C23 : Con := ⟨[tBk], [(.int .i64), (.int .i64), (.int .i64), (.int .i64)], F23⟩
noncomputable def cx23 : Ctx := cx21.add 23 C23
def S41 : List Gh.Spec := [{ key := (0, 41, 3, 1), frs := [{ fn := 41, n := 79, regs := [(1, (.dat (.int .i64))), (2, (.ptr 410002 [])), (5, (.row 410077)), (6, (.dat (.int .i64)))], round := none, defers := [] }], heap := [(410002, .box (.dat tBk) false), (410077, .row .bool false)] }, { key := (0, 41, 7, 1), frs := [{ fn := 41, n := 79, regs := [(1, (.dat (.int .i64))), (2, (.ptr 410002 [])), (5, (.row 410077)), (6, (.dat (.int .i64))), (7, (.dat .bool)), (8, (.dat (.int .i64)))], round := none, defers := [] }], heap := [(410002, .box (.dat tBk) false), (410077, .row .bool false)] }, { key := (0, 41, 11, 1), frs := [{ fn := 41, n := 79, regs := [(1, (.dat (.int .i64))), (2, (.ptr 410002 [])), (5, (.row 410077)), (6, (.dat (.int .i64))), (7, (.dat .bool)), (8, (.dat (.int .i64))), (9, (.ptr 410009 [])), (10, (.dat (.int .i64)))], round := none, defers := [] }], heap := [(410002, .box (.dat tBk) false), (410009, .box (.dat tWy) false), (410077, .row .bool false)] }, { key := (0, 41, 15, 1), frs := [{ fn := 41, n := 79, regs := [(1, (.dat (.int .i64))), (2, (.ptr 410002 [])), (5, (.row 410077)), (6, (.dat (.int .i64))), (7, (.dat .bool)), (8, (.dat (.int .i64))), (9, (.ptr 410009 [])), (11, (.dat (.int .i64)))], round := none, defers := [] }], heap := [(410002, .box (.dat tBk) false), (410009, .box (.dat tWy) false), (410077, .row .bool false)] }]
noncomputable def F41 : denL [tBk, (.int .i64)] → Option (denL [(.slice .bool)]) := ghost cx23 S41 6000 41 [tBk, (.int .i64)] [(.slice .bool)]
noncomputable def C41 : Con := ⟨[tBk, (.int .i64)], [(.slice .bool)], F41⟩
noncomputable def cx41 : Ctx := cx23.add 41 C41
def S95 : List Gh.Spec := [{ key := (0, 95, 3, 1), frs := [{ fn := 95, n := 28, regs := [(0, (.dat (.slice (.int .i64)))), (3, (.dat (.int .i64))), (4, (.dat (.int .i64)))], round := none, defers := [] }], heap := [] }, { key := (0, 95, 7, 1), frs := [{ fn := 95, n := 28, regs := [(0, (.dat (.slice (.int .i64)))), (3, (.dat (.int .i64))), (4, (.dat (.int .i64))), (5, (.dat (.int .i64))), (6, (.dat (.int .i64)))], round := none, defers := [] }], heap := [] }]
noncomputable def F95 : denL [(.slice (.int .i64))] → Option (denL [(.int .i64)]) := ghost cx41 S95 6000 95 [(.slice (.int .i64))] [(.int .i64)]
noncomputable def C95 : Con := ⟨[(.slice (.int .i64))], [(.int .i64)], F95⟩
noncomputable def cx95 : Ctx := cx41.add 95 C95
def S26 : List Gh.Spec := [{ key := (0, 26, 7, 1), frs := [{ fn := 26, n := 39, regs := [(7, (.dat (.slice .bool))), (8, (.row 260037)), (9, (.dat (.int .i64)))], round := none, defers := [] }], heap := [(260037, .row (.int .i64) false)] }]
noncomputable def F26 : denL [tBk, (.int .i64)] → Option (denL [(.slice (.int .i64)), (.int .i64)]) := ghost cx95 S26 6000 26 [tBk, (.int .i64)] [(.slice (.int .i64)), (.int .i64)]
noncomputable def C26 : Con := ⟨[tBk, (.int .i64)], [(.slice (.int .i64)), (.int .i64)], F26⟩
noncomputable def cx26 : Ctx := cx95.add 26 C26
def S44 : List Gh.Spec := [{ key := (0, 44, 3, 1), frs := [{ fn := 44, n := 36, regs := [(1, (.dat (.slice (.int .i64)))), (2, (.ptr 440002 [])), (4, (.ptr 440004 [])), (5, (.dat (.int .i64)))], round := none, defers := [] }], heap := [(440002, .box (.agg [(.row 440010), (.dat (.slice (.slice tWy)))]) false), (440004, .box (.dat tBk) false), (440010, .row (.struct [(.int .i64), .bool]) false)] }]
noncomputable def K44_0 : Kept := { todos := [[.inLoop (cAt Try.f44 [1, 1, 0, 1, 0, 0]), .inBlock 0, .code (cAt Try.f44 [1, 1, 1])]], cs := [noCodes, noCodes, noCodes] }
theorem E44 (G : (n : Nat) → Kept → denK (specAt S44 n) → Option (denL [tBk])) (t0 : Bk) (t1 : (List Int)) : enter cx26 S44 [tBk] 6000 some G 44 [tBk, (.slice (.int .i64))] (t0, (t1, ())) =
  bif decide (List.length (Prod.fst t0) ≤ 2147483648) then G 0 K44_0 (((t1, (), (), 0, ()), ()), ((), Prod.fst (Prod.snd t0), ()), ([], [], ()), Prod.fst t0, ()) else none := by kernel_rfl
theorem Q44_0 (G : (n : Nat) → Kept → denK (specAt S44 n) → Option (denL [tBk])) (t1 : (List Int)) (t5 : Int) (h0_1 : (List (List Wy))) (h1 : Bk) (h2 : (List Rw)) : seg cx26 S44 [tBk] 6000 some G 0 K44_0 (((t1, ((), ((), (t5, ())))), ()), (((), (h0_1, ())), (h1, (h2, ())))) =
  bif decide (t5 < (↑(List.length t1) : Int)) then
 bif decide (0 ≤ t5) && decide (t5 < (↑(List.length t1) : Int)) then
  bif decide (0 ≤ List.getD t1 (Int.toNat t5) 0) && decide (List.getD t1 (Int.toNat t5) 0 < (↑(List.length h2) : Int)) then
   bif decide (Int.toNat (List.getD t1 (Int.toNat t5) 0) < List.length h2) then
    bif decide (0 ≤ t5) && decide (t5 < (↑(List.length t1) : Int)) then
     bif decide (0 ≤ List.getD t1 (Int.toNat t5) 0) && decide (List.getD t1 (Int.toNat t5) 0 < (↑(List.length h2) : Int)) then
      bif decide (Int.toNat (List.getD t1 (Int.toNat t5) 0) < List.length h2) then G 0 K44_0 (((t1, (), (), IntKind.wrap IntKind.i64 (t5 + 1), ()), ()), ((), h0_1, ()), h1, List.set h2 (Int.toNat (List.getD t1 (Int.toNat t5) 0)) (Prod.fst (List.getD h2 (Int.toNat (List.getD t1 (Int.toNat t5) 0)) (0, false, ())), true, ()), ()) else none
     else none
    else none
   else none
  else none
 else none
 else some ((h2, h0_1, ()), ()) := by kernel_rfl
noncomputable def F44 : denL [tBk, (.slice (.int .i64))] → Option (denL [tBk]) := ghost cx26 S44 6000 44 [tBk, (.slice (.int .i64))] [tBk]
noncomputable def C44 : Con := ⟨[tBk, (.slice (.int .i64))], [tBk], F44⟩
noncomputable def cx44 : Ctx := cx26.add 44 C44
def S29 : List Gh.Spec := [{ key := (0, 29, 7, 1), frs := [{ fn := 29, n := 54, regs := [(7, (.dat (.slice tFd))), (8, (.dat (.slice tFd))), (9, (.row 290052)), (10, (.dat (.int .i64)))], round := none, defers := [] }], heap := [(290052, .row (.int .i64) false)] }]
noncomputable def F29 : denL [tBk, (.int .i64)] → Option (denL [(.slice (.int .i64)), (.int .i64)]) := ghost cx44 S29 6000 29 [tBk, (.int .i64)] [(.slice (.int .i64)), (.int .i64)]
noncomputable def C29 : Con := ⟨[tBk, (.int .i64)], [(.slice (.int .i64)), (.int .i64)], F29⟩
noncomputable def cx29 : Ctx := cx44.add 29 C29
def S47 : List Gh.Spec := [{ key := (0, 47, 3, 1), frs := [{ fn := 47, n := 24, regs := [(1, (.ptr 470001 [])), (3, (.row 470022)), (4, (.dat (.int .i64)))], round := none, defers := [] }], heap := [(470001, .box (.dat tBk) false), (470022, .row (.int .i64) false)] }]
noncomputable def F47 : denL [tBk] → Option (denL [(.slice (.int .i64))]) := ghost cx29 S47 6000 47 [tBk] [(.slice (.int .i64))]
noncomputable def C47 : Con := ⟨[tBk], [(.slice (.int .i64))], F47⟩
noncomputable def cx47 : Ctx := cx29.add 47 C47
def S100 : List Gh.Spec := [{ key := (0, 100, 3, 1), frs := [{ fn := 100, n := 28, regs := [(0, (.dat (.slice (.int .i64)))), (1, (.dat (.slice (.int .i64)))), (5, (.row 1000026)), (6, (.dat (.int .i64)))], round := none, defers := [] }], heap := [(1000026, .row (.int .i64) false)] }]
noncomputable def F100 : denL [(.slice (.int .i64)), (.slice (.int .i64))] → Option (denL [(.slice (.int .i64))]) := ghost cx47 S100 6000 100 [(.slice (.int .i64)), (.slice (.int .i64))] [(.slice (.int .i64))]
noncomputable def C100 : Con := ⟨[(.slice (.int .i64)), (.slice (.int .i64))], [(.slice (.int .i64))], F100⟩
noncomputable def cx100 : Ctx := cx47.add 100 C100
def S48 : List Gh.Spec := []
noncomputable def F48 : denL [tBk, (.int .i64), (.slice (.int .i64))] → Option (denL [.bool]) := ghost cx100 S48 6000 48 [tBk, (.int .i64), (.slice (.int .i64))] [.bool]
noncomputable def C48 : Con := ⟨[tBk, (.int .i64), (.slice (.int .i64))], [.bool], F48⟩
noncomputable def cx48 : Ctx := cx100.add 48 C48
def S117 : List Gh.Spec := [{ key := (0, 117, 3, 1), frs := [{ fn := 117, n := 54, regs := [(0, (.dat (.int .i64))), (1, (.dat (.int .i64))), (5, (.dat (.slice (.slice (.int .i64))))), (6, (.dat (.int .i64)))], round := none, defers := [] }], heap := [] }, { key := (0, 117, 7, 1), frs := [{ fn := 117, n := 54, regs := [(0, (.dat (.int .i64))), (1, (.dat (.int .i64))), (5, (.dat (.slice (.slice (.int .i64))))), (6, (.dat (.int .i64))), (7, (.row 1170051)), (8, (.dat (.int .i64)))], round := none, defers := [] }], heap := [(1170051, .row (.slice (.int .i64)) false)] }, { key := (0, 117, 13, 1), frs := [{ fn := 117, n := 54, regs := [(0, (.dat (.int .i64))), (1, (.dat (.int .i64))), (5, (.dat (.slice (.slice (.int .i64))))), (6, (.dat (.int .i64))), (7, (.row 1170051)), (8, (.dat (.int .i64))), (10, (.dat (.int .i64)))], round := none, defers := [] }], heap := [(1170051, .row (.slice (.int .i64)) false)] }]
noncomputable def F117 : denL [(.int .i64), (.int .i64)] → Option (denL [(.slice (.slice (.int .i64)))]) := ghost cx48 S117 6000 117 [(.int .i64), (.int .i64)] [(.slice (.slice (.int .i64)))]
noncomputable def C117 : Con := ⟨[(.int .i64), (.int .i64)], [(.slice (.slice (.int .i64)))], F117⟩
noncomputable def cx117 : Ctx := cx48.add 117 C117
def S99 : List Gh.Spec := [{ key := (0, 99, 4, 1), frs := [{ fn := 99, n := 43, regs := [(0, (.dat (.slice (.int .i64)))), (1, (.dat (.int .i64))), (5, (.dat (.slice (.slice (.int .i64))))), (6, (.row 990041)), (7, (.dat (.int .i64)))], round := none, defers := [] }], heap := [(990041, .row (.slice (.int .i64)) false)] }, { key := (0, 99, 8, 1), frs := [{ fn := 99, n := 43, regs := [(0, (.dat (.slice (.int .i64)))), (1, (.dat (.int .i64))), (5, (.dat (.slice (.slice (.int .i64))))), (6, (.row 990041)), (7, (.dat (.int .i64))), (8, (.row 990037)), (9, (.dat (.int .i64)))], round := none, defers := [] }], heap := [(990037, .row (.int .i64) false), (990041, .row (.slice (.int .i64)) false)] }]
noncomputable def F99 : denL [(.slice (.int .i64)), (.int .i64)] → Option (denL [(.slice (.slice (.int .i64)))]) := ghost cx117 S99 6000 99 [(.slice (.int .i64)), (.int .i64)] [(.slice (.slice (.int .i64)))]
noncomputable def C99 : Con := ⟨[(.slice (.int .i64)), (.int .i64)], [(.slice (.slice (.int .i64)))], F99⟩
noncomputable def cx99 : Ctx := cx117.add 99 C99
def S31 : List Gh.Spec := [{ key := (0, 31, 6, 1), frs := [{ fn := 31, n := 46, regs := [(1, (.dat (.int .i64))), (2, (.ptr 310002 [])), (7, (.dat (.slice (.int .i64)))), (8, (.dat (.int .i64)))], round := none, defers := [] }], heap := [(310002, .box (.dat tBk) false)] }, { key := (0, 31, 10, 1), frs := [{ fn := 31, n := 46, regs := [(1, (.dat (.int .i64))), (2, (.ptr 310002 [])), (7, (.dat (.slice (.int .i64)))), (8, (.dat (.int .i64))), (9, (.dat (.slice (.slice (.int .i64))))), (10, (.dat (.int .i64)))], round := none, defers := [] }], heap := [(310002, .box (.dat tBk) false)] }]
noncomputable def F31 : denL [tBk, (.int .i64)] → Option (denL [(.slice (.int .i64)), (.int .i64)]) := ghost cx99 S31 6000 31 [tBk, (.int .i64)] [(.slice (.int .i64)), (.int .i64)]
noncomputable def C31 : Con := ⟨[tBk, (.int .i64)], [(.slice (.int .i64)), (.int .i64)], F31⟩
noncomputable def cx31 : Ctx := cx99.add 31 C31
def S33 : List Gh.Spec := [{ key := (0, 33, 7, 1), frs := [{ fn := 33, n := 43, regs := [(1, (.dat (.int .i64))), (2, (.ptr 330002 [])), (7, (.dat (.slice (.int .i64)))), (8, (.row 330041)), (9, (.dat (.int .i64)))], round := none, defers := [] }], heap := [(330002, .box (.dat tBk) false), (330041, .row (.int .i64) false)] }]
noncomputable def F33 : denL [tBk, (.int .i64)] → Option (denL [(.slice (.int .i64)), (.int .i64)]) := ghost cx31 S33 6000 33 [tBk, (.int .i64)] [(.slice (.int .i64)), (.int .i64)]
noncomputable def C33 : Con := ⟨[tBk, (.int .i64)], [(.slice (.int .i64)), (.int .i64)], F33⟩
noncomputable def cx33 : Ctx := cx31.add 33 C33
def S35 : List Gh.Spec := [{ key := (0, 35, 6, 1), frs := [{ fn := 35, n := 52, regs := [(1, (.dat (.int .i64))), (2, (.ptr 350002 [])), (7, (.dat (.slice (.int .i64)))), (8, (.dat (.int .i64)))], round := none, defers := [] }], heap := [(350002, .box (.dat tBk) false)] }, { key := (0, 35, 10, 1), frs := [{ fn := 35, n := 52, regs := [(1, (.dat (.int .i64))), (2, (.ptr 350002 [])), (7, (.dat (.slice (.int .i64)))), (8, (.dat (.int .i64))), (9, (.dat (.slice (.slice (.int .i64))))), (10, (.dat (.int .i64)))], round := none, defers := [] }], heap := [(350002, .box (.dat tBk) false)] }]
noncomputable def F35 : denL [tBk, (.int .i64)] → Option (denL [(.slice (.int .i64)), (.int .i64)]) := ghost cx33 S35 6000 35 [tBk, (.int .i64)] [(.slice (.int .i64)), (.int .i64)]
noncomputable def C35 : Con := ⟨[tBk, (.int .i64)], [(.slice (.int .i64)), (.int .i64)], F35⟩
noncomputable def cx35 : Ctx := cx33.add 35 C35
def S103 : List Gh.Spec := []
noncomputable def F103 : denL [tBk, (.slice (.int .i64))] → Option (denL [.bool]) := ghost cx35 S103 6000 103 [tBk, (.slice (.int .i64))] [.bool]
noncomputable def C103 : Con := ⟨[tBk, (.slice (.int .i64))], [.bool], F103⟩
noncomputable def cx103 : Ctx := cx35.add 103 C103
def S37 : List Gh.Spec := [{ key := (0, 37, 6, 1), frs := [{ fn := 37, n := 48, regs := [(1, (.ptr 370001 [])), (7, (.dat (.slice (.int .i64)))), (8, (.dat (.int .i64)))], round := none, defers := [] }], heap := [(370001, .box (.dat tBk) false)] }, { key := (0, 37, 10, 1), frs := [{ fn := 37, n := 48, regs := [(1, (.ptr 370001 [])), (7, (.dat (.slice (.int .i64)))), (8, (.dat (.int .i64))), (9, (.dat (.slice (.slice (.int .i64))))), (10, (.dat (.int .i64)))], round := none, defers := [] }], heap := [(370001, .box (.dat tBk) false)] }]
noncomputable def F37 : denL [tBk] → Option (denL [(.slice (.int .i64)), (.int .i64)]) := ghost cx103 S37 6000 37 [tBk] [(.slice (.int .i64)), (.int .i64)]
noncomputable def C37 : Con := ⟨[tBk], [(.slice (.int .i64)), (.int .i64)], F37⟩
noncomputable def cx37 : Ctx := cx103.add 37 C37
end Go.Proofs.Ytallblpnlefpeaa
