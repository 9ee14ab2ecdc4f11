/- What the ghost comes to: the reference. Conditions: none (equations, each by computation). -/
import Derived.Test.YtkbephbhajplhaaDoorCyE
namespace Go.Proofs.YtkbephbhajplhaaDoor
open Go Go.Gh Go.Proofs
def S85 : List Gh.Spec := []
noncomputable def F85 : denL [(.int .i64), (.int .i64), (.int .i64)] → Option (denL [.bool]) := ghost cx30 S85 6000 85 [(.int .i64), (.int .i64), (.int .i64)] [.bool]
noncomputable def C85 : Con := ⟨[(.int .i64), (.int .i64), (.int .i64)], [.bool], F85⟩
noncomputable def cx85 : Ctx := cx30.add 85 C85
def S86 : List Gh.Spec := []
noncomputable def F86 : denL [tSp, (.int .i64), (.int .i64)] → Option (denL [(.int .i64)]) := ghost cx85 S86 6000 86 [tSp, (.int .i64), (.int .i64)] [(.int .i64)]
noncomputable def C86 : Con := ⟨[tSp, (.int .i64), (.int .i64)], [(.int .i64)], F86⟩
noncomputable def cx86 : Ctx := cx85.add 86 C86
def S87 : List Gh.Spec := []
noncomputable def F87 : denL [tSe, (.int .i64)] → Option (denL [.bool]) := ghost cx86 S87 6000 87 [tSe, (.int .i64)] [.bool]
noncomputable def C87 : Con := ⟨[tSe, (.int .i64)], [.bool], F87⟩
noncomputable def cx87 : Ctx := cx86.add 87 C87
def S18 : List Gh.Spec := [{ key := (0, 18, 4, 1), frs := [{ fn := 18, n := 102, regs := [(1, (.ptr 180001 [])), (5, (.dat (.int .i64)))], round := none, defers := [] }], heap := [(180001, .box (.dat tSe) false)] }, { key := (0, 18, 14, 1), frs := [{ fn := 18, n := 102, regs := [(1, (.ptr 180001 [])), (7, (.dat (.int .i64)))], round := none, defers := [] }], heap := [(180001, .box (.dat tSe) false)] }]
noncomputable def F18 : denL [tSe] → Option (denL [(.int .i64), (.int .i64), (.int .i64)]) := ghost cx87 S18 6000 18 [tSe] [(.int .i64), (.int .i64), (.int .i64)]
noncomputable def C18 : Con := ⟨[tSe], [(.int .i64), (.int .i64), (.int .i64)], F18⟩
noncomputable def cx18 : Ctx := cx87.add 18 C18
def S112 : List Gh.Spec := [{ key := (0, 112, 3, 1), frs := [{ fn := 112, n := 52, regs := [(1, (.ptr 1120001 [])), (3, (.dat (.slice (.slice (.int .i64))))), (4, (.dat (.int .i64)))], round := none, defers := [] }], heap := [(1120001, .box (.dat tSe) false)] }, { key := (0, 112, 7, 1), frs := [{ fn := 112, n := 52, regs := [(1, (.ptr 1120001 [])), (3, (.dat (.slice (.slice (.int .i64))))), (4, (.dat (.int .i64))), (5, (.row 1120049)), (6, (.dat (.int .i64)))], round := none, defers := [] }], heap := [(1120001, .box (.dat tSe) false), (1120049, .row (.slice (.int .i64)) false)] }, { key := (0, 112, 10, 1), frs := [{ fn := 112, n := 52, regs := [(1, (.ptr 1120001 [])), (3, (.dat (.slice (.slice (.int .i64))))), (4, (.dat (.int .i64))), (5, (.row 1120049)), (6, (.dat (.int .i64))), (7, (.dat (.int .i64)))], round := none, defers := [] }], heap := [(1120001, .box (.dat tSe) false), (1120049, .row (.slice (.int .i64)) false)] }]
noncomputable def F112 : denL [tSe] → Option (denL [(.slice (.slice (.int .i64)))]) := ghost cx18 S112 6000 112 [tSe] [(.slice (.slice (.int .i64)))]
noncomputable def C112 : Con := ⟨[tSe], [(.slice (.slice (.int .i64)))], F112⟩
noncomputable def cx112 : Ctx := cx18.add 112 C112
def S47 : List Gh.Spec := [{ key := (0, 47, 3, 1), frs := [{ fn := 47, n := 22, regs := [(0, (.dat (.slice (.int .i64)))), (2, (.dat (.int .i64))), (7, (.dat (.int .i64))), (8, (.dat (.int .i64)))], round := none, defers := [] }], heap := [] }]
noncomputable def F47 : denL [(.slice (.int .i64)), (.int .i64), (.int .i64)] → Option (denL [(.int .i64)]) := ghost cx112 S47 6000 47 [(.slice (.int .i64)), (.int .i64), (.int .i64)] [(.int .i64)]
noncomputable def C47 : Con := ⟨[(.slice (.int .i64)), (.int .i64), (.int .i64)], [(.int .i64)], F47⟩
noncomputable def cx47 : Ctx := cx112.add 47 C47
def S40 : List Gh.Spec := [{ key := (0, 40, 3, 1), frs := [{ fn := 40, n := 39, regs := [(0, (.dat (.slice (.int .i64)))), (3, (.row 400037)), (4, (.dat (.int .i64)))], round := none, defers := [] }], heap := [(400037, .row (.int .i64) false)] }]
noncomputable def F40 : denL [(.slice (.int .i64))] → Option (denL [(.slice (.int .i64))]) := ghost cx47 S40 6000 40 [(.slice (.int .i64))] [(.slice (.int .i64))]
noncomputable def C40 : Con := ⟨[(.slice (.int .i64))], [(.slice (.int .i64))], F40⟩
noncomputable def cx40 : Ctx := cx47.add 40 C40
def S41 : List Gh.Spec := [{ key := (0, 41, 3, 1), frs := [{ fn := 41, n := 39, regs := [(0, (.dat (.slice (.int .i64)))), (3, (.row 410037)), (4, (.dat (.int .i64)))], round := none, defers := [] }], heap := [(410037, .row (.int .i64) false)] }]
noncomputable def F41 : denL [(.slice (.int .i64))] → Option (denL [(.slice (.int .i64))]) := ghost cx40 S41 6000 41 [(.slice (.int .i64))] [(.slice (.int .i64))]
noncomputable def C41 : Con := ⟨[(.slice (.int .i64))], [(.slice (.int .i64))], F41⟩
noncomputable def cx41 : Ctx := cx40.add 41 C41
def S42 : List Gh.Spec := []
noncomputable def F42 : denL [(.int .i64), tSp] → Option (denL [.bool]) := ghost cx41 S42 6000 42 [(.int .i64), tSp] [.bool]
noncomputable def C42 : Con := ⟨[(.int .i64), tSp], [.bool], F42⟩
noncomputable def cx42 : Ctx := cx41.add 42 C42
def S110 : List Gh.Spec := [{ key := (0, 110, 4, 1), frs := [{ fn := 110, n := 32, regs := [(3, (.ptr 1100003 [])), (5, (.dat (.slice (.int .i64)))), (6, (.dat .bool)), (7, (.dat (.int .i64)))], round := none, defers := [] }], heap := [(1100003, .box (.dat tSp) false)] }]
noncomputable def F110 : denL [(.slice (.int .i64)), tSp] → Option (denL [.bool]) := ghost cx42 S110 6000 110 [(.slice (.int .i64)), tSp] [.bool]
noncomputable def C110 : Con := ⟨[(.slice (.int .i64)), tSp], [.bool], F110⟩
noncomputable def cx110 : Ctx := cx42.add 110 C110
def S52 : List Gh.Spec := [{ key := (0, 52, 4, 1), frs := [{ fn := 52, n := 60, regs := [(1, (.ptr 520001 [])), (3, (.dat (.slice (.slice (.int .i64))))), (4, (.row 520058)), (5, (.dat (.int .i64)))], round := none, defers := [] }], heap := [(520001, .box (.dat tSe) false), (520058, .row (.slice (.int .i64)) false)] }, { key := (0, 52, 8, 1), frs := [{ fn := 52, n := 60, regs := [(1, (.ptr 520001 [])), (3, (.dat (.slice (.slice (.int .i64))))), (4, (.row 520058)), (5, (.dat (.int .i64))), (6, (.dat .bool)), (7, (.dat (.int .i64)))], round := none, defers := [] }], heap := [(520001, .box (.dat tSe) false), (520058, .row (.slice (.int .i64)) false)] }]
noncomputable def F52 : denL [tSe] → Option (denL [(.slice (.slice (.int .i64)))]) := ghost cx110 S52 6000 52 [tSe] [(.slice (.slice (.int .i64)))]
noncomputable def C52 : Con := ⟨[tSe], [(.slice (.slice (.int .i64)))], F52⟩
noncomputable def cx52 : Ctx := cx110.add 52 C52
def S90 : List Gh.Spec := []
noncomputable def F90 : denL [tSe, (.int .i64)] → Option (denL [(.slice (.slice (.int .i64))), (.int .i64)]) := ghost cx52 S90 6000 90 [tSe, (.int .i64)] [(.slice (.slice (.int .i64))), (.int .i64)]
noncomputable def C90 : Con := ⟨[tSe, (.int .i64)], [(.slice (.slice (.int .i64))), (.int .i64)], F90⟩
noncomputable def cx90 : Ctx := cx52.add 90 C90
def S91 : List Gh.Spec := []
noncomputable def F91 : denL [tSe, (.int .i64)] → Option (denL [(.int .i64)]) := ghost cx90 S91 6000 91 [tSe, (.int .i64)] [(.int .i64)]
noncomputable def C91 : Con := ⟨[tSe, (.int .i64)], [(.int .i64)], F91⟩
noncomputable def cx91 : Ctx := cx90.add 91 C91
def S92 : List Gh.Spec := []
noncomputable def F92 : denL [tSp, (.int .i64)] → Option (denL [tSp]) := ghost cx91 S92 6000 92 [tSp, (.int .i64)] [tSp]
noncomputable def C92 : Con := ⟨[tSp, (.int .i64)], [tSp], F92⟩
noncomputable def cx92 : Ctx := cx91.add 92 C92
def S20 : List Gh.Spec := [{ key := (0, 20, 6, 1), frs := [{ fn := 20, n := 51, regs := [(1, (.dat (.int .i64))), (4, (.ptr 200004 [])), (6, (.dat (.slice (.slice (.int .i64))))), (8, (.ptr 200008 [])), (9, (.dat (.int .i64)))], round := none, defers := [] }], heap := [(200004, .box (.dat tSp) false), (200008, .box (.dat tSp) false)] }]
noncomputable def F20 : denL [tSe, (.int .i64)] → Option (denL [tSp, (.int .i64)]) := ghost cx92 S20 6000 20 [tSe, (.int .i64)] [tSp, (.int .i64)]
noncomputable def C20 : Con := ⟨[tSe, (.int .i64)], [tSp, (.int .i64)], F20⟩
noncomputable def cx20 : Ctx := cx92.add 20 C20
def S111 : List Gh.Spec := [{ key := (0, 111, 1, 1), frs := [{ fn := 111, n := 14, regs := [(0, (.dat (.int .i64))), (1, (.dat (.int .i64)))], round := none, defers := [] }], heap := [] }]
noncomputable def F111 : denL [(.int .i64), (.int .i64)] → Option (denL [(.int .i64)]) := ghost cx20 S111 6000 111 [(.int .i64), (.int .i64)] [(.int .i64)]
noncomputable def C111 : Con := ⟨[(.int .i64), (.int .i64)], [(.int .i64)], F111⟩
noncomputable def cx111 : Ctx := cx20.add 111 C111
def S46 : List Gh.Spec := []
noncomputable def F46 : denL [(.int .i64), (.int .i64)] → Option (denL [tSp]) := ghost cx111 S46 6000 46 [(.int .i64), (.int .i64)] [tSp]
noncomputable def C46 : Con := ⟨[(.int .i64), (.int .i64)], [tSp], F46⟩
noncomputable def cx46 : Ctx := cx111.add 46 C46
def S22 : List Gh.Spec := [{ key := (0, 22, 12, 1), frs := [{ fn := 22, n := 78, regs := [(1, (.dat (.int .i64))), (2, (.dat (.int .i64))), (6, (.ptr 220006 [])), (7, (.ptr 220007 [])), (10, (.dat (.slice (.slice (.int .i64))))), (12, (.ptr 220012 [])), (13, (.dat (.int .i64)))], round := none, defers := [] }], heap := [(220006, .box (.dat tSp) false), (220007, .box (.dat tSp) false), (220012, .box (.dat tSp) false)] }]
noncomputable def F22 : denL [tSe, (.int .i64), (.int .i64)] → Option (denL [tSp, tSp, (.int .i64)]) := ghost cx46 S22 6000 22 [tSe, (.int .i64), (.int .i64)] [tSp, tSp, (.int .i64)]
noncomputable def C22 : Con := ⟨[tSe, (.int .i64), (.int .i64)], [tSp, tSp, (.int .i64)], F22⟩
noncomputable def cx22 : Ctx := cx46.add 22 C22
def S44 : List Gh.Spec := [{ key := (0, 44, 2, 1), frs := [{ fn := 44, n := 18, regs := [(0, (.dat (.slice (.int .i64)))), (1, (.dat (.int .i64))), (5, (.dat (.int .i64)))], round := none, defers := [] }], heap := [] }]
noncomputable def F44 : denL [(.slice (.int .i64)), (.int .i64)] → Option (denL [.bool]) := ghost cx22 S44 6000 44 [(.slice (.int .i64)), (.int .i64)] [.bool]
noncomputable def C44 : Con := ⟨[(.slice (.int .i64)), (.int .i64)], [.bool], F44⟩
noncomputable def cx44 : Ctx := cx22.add 44 C44
def S98 : List Gh.Spec := []
noncomputable def F98 : denL [(.int .i64), (.int .i64)] → Option (denL [(.int .i64)]) := ghost cx44 S98 6000 98 [(.int .i64), (.int .i64)] [(.int .i64)]
noncomputable def C98 : Con := ⟨[(.int .i64), (.int .i64)], [(.int .i64)], F98⟩
noncomputable def cx98 : Ctx := cx44.add 98 C98
def S25 : List Gh.Spec := [{ key := (0, 25, 6, 1), frs := [{ fn := 25, n := 55, regs := [(1, (.dat (.int .i64))), (7, (.dat (.slice (.slice (.int .i64))))), (9, (.dat (.int .i64))), (10, (.dat (.int .i64))), (11, (.dat (.int .i64)))], round := none, defers := [] }], heap := [] }]
noncomputable def F25 : denL [tSe, (.int .i64)] → Option (denL [(.int .i64), (.int .i64), (.int .i64)]) := ghost cx98 S25 6000 25 [tSe, (.int .i64)] [(.int .i64), (.int .i64), (.int .i64)]
noncomputable def C25 : Con := ⟨[tSe, (.int .i64)], [(.int .i64), (.int .i64), (.int .i64)], F25⟩
noncomputable def cx25 : Ctx := cx98.add 25 C25
def S102 : List Gh.Spec := [{ key := (0, 102, 5, 1), frs := [{ fn := 102, n := 30, regs := [(0, (.dat (.slice (.int .i64)))), (2, (.ptr 1020002 [])), (4, (.ptr 1020004 [])), (5, (.dat (.int .i64)))], round := none, defers := [] }], heap := [(1020002, .box (.dat tSp) false), (1020004, .box (.dat tSp) false)] }]
noncomputable def F102 : denL [(.slice (.int .i64))] → Option (denL [tSp, (.int .i64)]) := ghost cx25 S102 6000 102 [(.slice (.int .i64))] [tSp, (.int .i64)]
noncomputable def C102 : Con := ⟨[(.slice (.int .i64))], [tSp, (.int .i64)], F102⟩
noncomputable def cx102 : Ctx := cx25.add 102 C102
def S27 : List Gh.Spec := [{ key := (0, 27, 7, 1), frs := [{ fn := 27, n := 62, regs := [(2, (.ptr 270002 [])), (7, (.dat (.slice (.slice (.int .i64))))), (8, (.row 270057)), (9, (.dat (.int .i64)))], round := none, defers := [] }], heap := [(270002, .box (.dat tSp) false), (270057, .row (.int .i64) false)] }, { key := (0, 27, 11, 1), frs := [{ fn := 27, n := 62, regs := [(2, (.ptr 270002 [])), (7, (.dat (.slice (.slice (.int .i64))))), (8, (.row 270057)), (9, (.dat (.int .i64))), (10, (.dat (.slice (.int .i64)))), (11, (.dat (.int .i64)))], round := none, defers := [] }], heap := [(270002, .box (.dat tSp) false), (270057, .row (.int .i64) false)] }]
noncomputable def F27 : denL [tSe] → Option (denL [tSp, (.int .i64)]) := ghost cx102 S27 6000 27 [tSe] [tSp, (.int .i64)]
noncomputable def C27 : Con := ⟨[tSe], [tSp, (.int .i64)], F27⟩
noncomputable def cx27 : Ctx := cx102.add 27 C27
def S50 : List Gh.Spec := [{ key := (0, 50, 7, 1), frs := [{ fn := 50, n := 60, regs := [(0, (.dat (.slice (.int .i64)))), (3, (.ptr 500003 [])), (6, (.dat (.int .i64))), (7, (.dat (.int .i64))), (8, (.row 500058)), (9, (.dat (.int .i64)))], round := none, defers := [] }], heap := [(500003, .box (.dat tSp) false), (500058, .row (.int .i64) false)] }]
noncomputable def F50 : denL [(.slice (.int .i64)), tSp] → Option (denL [(.slice (.int .i64))]) := ghost cx27 S50 6000 50 [(.slice (.int .i64)), tSp] [(.slice (.int .i64))]
noncomputable def C50 : Con := ⟨[(.slice (.int .i64)), tSp], [(.slice (.int .i64))], F50⟩
noncomputable def cx50 : Ctx := cx27.add 50 C50
def S29 : List Gh.Spec := [{ key := (0, 29, 7, 1), frs := [{ fn := 29, n := 45, regs := [(1, (.ptr 290001 [])), (2, (.ptr 290002 [])), (7, (.dat (.slice (.slice (.int .i64))))), (8, (.row 290040)), (9, (.dat (.int .i64)))], round := none, defers := [] }], heap := [(290001, .box (.dat tSe) false), (290002, .box (.dat tSp) false), (290040, .row (.int .i64) false)] }]
noncomputable def F29 : denL [tSe] → Option (denL [tSp, (.int .i64)]) := ghost cx50 S29 6000 29 [tSe] [tSp, (.int .i64)]
noncomputable def C29 : Con := ⟨[tSe], [tSp, (.int .i64)], F29⟩
noncomputable def cx29 : Ctx := cx50.add 29 C29
def S49 : List Gh.Spec := []
noncomputable def F49 : denL [(.slice (.int .i64)), (.int .i64), tSp, (.int .i64)] → Option (denL [.bool]) := ghost cx29 S49 6000 49 [(.slice (.int .i64)), (.int .i64), tSp, (.int .i64)] [.bool]
noncomputable def C49 : Con := ⟨[(.slice (.int .i64)), (.int .i64), tSp, (.int .i64)], [.bool], F49⟩
noncomputable def cx49 : Ctx := cx29.add 49 C49
def S31 : List Gh.Spec := [{ key := (0, 31, 12, 1), frs := [{ fn := 31, n := 78, regs := [(2, (.dat (.int .i64))), (3, (.ptr 310003 [])), (4, (.ptr 310004 [])), (12, (.dat (.slice (.slice (.int .i64))))), (13, (.row 310076)), (14, (.dat (.int .i64)))], round := none, defers := [] }], heap := [(310003, .box (.dat tSe) false), (310004, .box (.dat tSp) false), (310076, .row (.int .i64) false)] }, { key := (0, 31, 16, 1), frs := [{ fn := 31, n := 78, regs := [(2, (.dat (.int .i64))), (3, (.ptr 310003 [])), (4, (.ptr 310004 [])), (12, (.dat (.slice (.slice (.int .i64))))), (13, (.row 310076)), (14, (.dat (.int .i64))), (15, (.dat .bool)), (16, (.dat (.int .i64)))], round := none, defers := [] }], heap := [(310003, .box (.dat tSe) false), (310004, .box (.dat tSp) false), (310076, .row (.int .i64) false)] }]
noncomputable def F31 : denL [tSe, tSp, (.int .i64)] → Option (denL [(.slice (.int .i64)), (.int .i64)]) := ghost cx49 S31 6000 31 [tSe, tSp, (.int .i64)] [(.slice (.int .i64)), (.int .i64)]
noncomputable def C31 : Con := ⟨[tSe, tSp, (.int .i64)], [(.slice (.int .i64)), (.int .i64)], F31⟩
noncomputable def cx31 : Ctx := cx49.add 31 C31
def S54 : List Gh.Spec := [{ key := (0, 54, 3, 1), frs := [{ fn := 54, n := 29, regs := [(1, (.dat (.slice (.int .i64)))), (2, (.ptr 540002 [])), (4, (.ptr 540004 [])), (5, (.row 540025)), (6, (.dat (.int .i64)))], round := none, defers := [] }], heap := [(540002, .box (.dat tSe) false), (540004, .box (.dat tSe) false), (540025, .row tSm false)] }]
noncomputable def F54 : denL [tSe, (.slice (.int .i64))] → Option (denL [tSe]) := ghost cx31 S54 6000 54 [tSe, (.slice (.int .i64))] [tSe]
noncomputable def C54 : Con := ⟨[tSe, (.slice (.int .i64))], [tSe], F54⟩
noncomputable def cx54 : Ctx := cx31.add 54 C54
def S108 : List Gh.Spec := [{ key := (0, 108, 3, 1), frs := [{ fn := 108, n := 54, regs := [(0, (.dat (.int .i64))), (1, (.dat (.int .i64))), (5, (.dat (.slice (.slice (.int .i64))))), (6, (.dat (.int .i64)))], round := none, defers := [] }], heap := [] }, { key := (0, 108, 7, 1), frs := [{ fn := 108, n := 54, regs := [(0, (.dat (.int .i64))), (1, (.dat (.int .i64))), (5, (.dat (.slice (.slice (.int .i64))))), (6, (.dat (.int .i64))), (7, (.row 1080051)), (8, (.dat (.int .i64)))], round := none, defers := [] }], heap := [(1080051, .row (.slice (.int .i64)) false)] }, { key := (0, 108, 13, 1), frs := [{ fn := 108, n := 54, regs := [(0, (.dat (.int .i64))), (1, (.dat (.int .i64))), (5, (.dat (.slice (.slice (.int .i64))))), (6, (.dat (.int .i64))), (7, (.row 1080051)), (8, (.dat (.int .i64))), (10, (.dat (.int .i64)))], round := none, defers := [] }], heap := [(1080051, .row (.slice (.int .i64)) false)] }]
noncomputable def F108 : denL [(.int .i64), (.int .i64)] → Option (denL [(.slice (.slice (.int .i64)))]) := ghost cx54 S108 6000 108 [(.int .i64), (.int .i64)] [(.slice (.slice (.int .i64)))]
noncomputable def C108 : Con := ⟨[(.int .i64), (.int .i64)], [(.slice (.slice (.int .i64)))], F108⟩
noncomputable def cx108 : Ctx := cx54.add 108 C108
def S34 : List Gh.Spec := [{ key := (0, 34, 5, 1), frs := [{ fn := 34, n := 50, regs := [(1, (.ptr 340001 [])), (7, (.dat (.int .i64)))], round := none, defers := [] }], heap := [(340001, .box (.dat tSe) false)] }, { key := (0, 34, 9, 1), frs := [{ fn := 34, n := 50, regs := [(1, (.ptr 340001 [])), (7, (.dat (.int .i64))), (8, (.dat (.slice (.slice (.int .i64))))), (9, (.dat (.int .i64)))], round := none, defers := [] }], heap := [(340001, .box (.dat tSe) false)] }]
noncomputable def F34 : denL [tSe] → Option (denL [(.slice (.int .i64)), (.int .i64)]) := ghost cx108 S34 6000 34 [tSe] [(.slice (.int .i64)), (.int .i64)]
noncomputable def C34 : Con := ⟨[tSe], [(.slice (.int .i64)), (.int .i64)], F34⟩
noncomputable def cx34 : Ctx := cx108.add 34 C34
def S32 : List Gh.Spec := [{ key := (0, 32, 3, 1), frs := [{ fn := 32, n := 31, regs := [(0, (.dat (.slice (.int .i64)))), (1, (.dat (.slice (.int .i64)))), (5, (.dat .bool)), (6, (.dat (.int .i64)))], round := none, defers := [] }], heap := [] }]
noncomputable def K32_0 : Kept := { todos := [[.inLoop (cAt Tryd.f32 [1, 1, 0, 1, 0, 0]), .inBlock 0, .code (cAt Tryd.f32 [1, 1, 1])]], cs := [] }
abbrev GT32 : Type := (n : Nat) → Kept → denK (specAt S32 n) → Option (denL [.bool])
theorem E32 (G : GT32) (t0 : (List Int)) (t1 : (List Int)) : enter cx34 S32 [.bool] 6000 some G 32 [(.slice (.int .i64)), (.slice (.int .i64))] (t0, (t1, ())) =
  G 0 K32_0 (((t0, t1, (↑(List.length t0) : Int) == (↑(List.length t1) : Int), 0, ()), ()), ()) := by kernel_rfl
theorem Q32_0 (G : GT32) (t0 : (List Int)) (t1 : (List Int)) (t5 : Bool) (t6 : Int) : seg cx34 S32 [.bool] 6000 some G 0 K32_0 (((t0, (t1, (t5, (t6, ())))), ()), ()) =
  bif t5 then bif decide (t6 < (↑(List.length t0) : Int)) then bif decide (0 ≤ t6) && decide (t6 < (↑(List.length t0) : Int)) then bif decide (0 ≤ t6) && decide (t6 < (↑(List.length t1) : Int)) then G 0 K32_0 (((t0, t1, List.getD t0 (Int.toNat t6) 0 == List.getD t1 (Int.toNat t6) 0, IntKind.wrap IntKind.i64 (t6 + 1), ()), ()), ()) else none else none else some (t5, ()) else some (t5, ()) := by kernel_rfl
noncomputable def F32 : denL [(.slice (.int .i64)), (.slice (.int .i64))] → Option (denL [.bool]) := ghost cx34 S32 6000 32 [(.slice (.int .i64)), (.slice (.int .i64))] [.bool]
noncomputable def C32 : Con := ⟨[(.slice (.int .i64)), (.slice (.int .i64))], [.bool], F32⟩
noncomputable def cx32 : Ctx := cx34.add 32 C32
def S113 : List Gh.Spec := [{ key := (0, 113, 2, 1), frs := [{ fn := 113, n := 41, regs := [(0, (.dat (.slice (.int .i64)))), (1, (.dat (.slice (.int .i64)))), (5, (.dat (.int .i64)))], round := none, defers := [] }], heap := [] }]
noncomputable def F113 : denL [(.slice (.int .i64)), (.slice (.int .i64))] → Option (denL [.bool]) := ghost cx32 S113 6000 113 [(.slice (.int .i64)), (.slice (.int .i64))] [.bool]
noncomputable def C113 : Con := ⟨[(.slice (.int .i64)), (.slice (.int .i64))], [.bool], F113⟩
noncomputable def cx113 : Ctx := cx32.add 113 C113
end Go.Proofs.YtkbephbhajplhaaDoor
