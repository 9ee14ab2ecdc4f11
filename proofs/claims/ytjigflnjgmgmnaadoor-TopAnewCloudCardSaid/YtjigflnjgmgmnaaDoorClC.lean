/- What the ghost comes to: C. Conditions: none (equations, each by computation). -/
import Derived.Test.YtjigflnjgmgmnaaDoorClB
namespace Go.Proofs.YtjigflnjgmgmnaaDoor
open Go Go.Gh Go.Proofs
def S48 : List Gh.Spec := []
noncomputable def F48 : denL [(.int .i64), (.int .i64), (.int .i64)] → Option (denL [.bool]) := ghost cx35 S48 6000 48 [(.int .i64), (.int .i64), (.int .i64)] [.bool]
noncomputable def C48 : Con := ⟨[(.int .i64), (.int .i64), (.int .i64)], [.bool], F48⟩
noncomputable def cx48 : Ctx := cx35.add 48 C48
def S117 : List Gh.Spec := []
noncomputable def F117 : denL [(.struct [(.int .i64), (.int .i64)]), (.int .i64)] → Option (denL [(.struct [(.int .i64), (.int .i64)])]) := ghost cx48 S117 6000 117 [(.struct [(.int .i64), (.int .i64)]), (.int .i64)] [(.struct [(.int .i64), (.int .i64)])]
noncomputable def C117 : Con := ⟨[(.struct [(.int .i64), (.int .i64)]), (.int .i64)], [(.struct [(.int .i64), (.int .i64)])], F117⟩
noncomputable def cx117 : Ctx := cx48.add 117 C117
def S56 : List Gh.Spec := []
noncomputable def F56 : denL [(.struct [(.int .i64), (.int .i64)]), (.int .i64)] → Option (denL [.bool]) := ghost cx117 S56 6000 56 [(.struct [(.int .i64), (.int .i64)]), (.int .i64)] [.bool]
noncomputable def C56 : Con := ⟨[(.struct [(.int .i64), (.int .i64)]), (.int .i64)], [.bool], F56⟩
noncomputable def cx56 : Ctx := cx117.add 56 C56
def S19 : List Gh.Spec := [{ key := (0, 19, 7, 1), frs := [{ fn := 19, n := 57, regs := [(1, (.ptr 190001 [])), (5, (.dat (.int .i64))), (6, (.dat (.int .i64)))], round := none, defers := [] }], heap := [(190001, .box (.dat (.struct [(.int .i64), (.slice (.struct [(.int .i64), (.int .i64)]))])) false)] }]
noncomputable def F19 : denL [(.struct [(.int .i64), (.slice (.struct [(.int .i64), (.int .i64)]))])] → Option (denL [(.int .i64), (.int .i64), (.int .i64)]) := ghost cx56 S19 6000 19 [(.struct [(.int .i64), (.slice (.struct [(.int .i64), (.int .i64)]))])] [(.int .i64), (.int .i64), (.int .i64)]
noncomputable def C19 : Con := ⟨[(.struct [(.int .i64), (.slice (.struct [(.int .i64), (.int .i64)]))])], [(.int .i64), (.int .i64), (.int .i64)], F19⟩
noncomputable def cx19 : Ctx := cx56.add 19 C19
def S116 : List Gh.Spec := [{ key := (0, 116, 3, 1), frs := [{ fn := 116, n := 112, regs := [(1, (.ptr 1160001 [])), (3, (.row 1160110)), (4, (.dat (.int .i64)))], round := none, defers := [] }], heap := [(1160001, .box (.dat (.struct [(.int .i64), (.slice (.struct [(.int .i64), (.int .i64)]))])) false), (1160110, .row (.struct [(.arr 101 .bool), (.arr 101 (.struct [(.int .i64), (.int .i64)]))]) false)] }, { key := (0, 116, 7, 1), frs := [{ fn := 116, n := 112, regs := [(1, (.ptr 1160001 [])), (3, (.row 1160110)), (4, (.dat (.int .i64))), (5, (.ptr 1160005 [])), (6, (.dat (.int .i64)))], round := none, defers := [] }], heap := [(1160001, .box (.dat (.struct [(.int .i64), (.slice (.struct [(.int .i64), (.int .i64)]))])) false), (1160005, .box (.dat (.struct [(.arr 101 .bool), (.arr 101 (.struct [(.int .i64), (.int .i64)]))])) false), (1160110, .row (.struct [(.arr 101 .bool), (.arr 101 (.struct [(.int .i64), (.int .i64)]))]) false)] }, { key := (0, 116, 13, 1), frs := [{ fn := 116, n := 112, regs := [(1, (.ptr 1160001 [])), (3, (.row 1160110)), (4, (.dat (.int .i64))), (5, (.ptr 1160005 [])), (6, (.dat (.int .i64))), (7, (.dat (.int .i64)))], round := none, defers := [] }], heap := [(1160001, .box (.dat (.struct [(.int .i64), (.slice (.struct [(.int .i64), (.int .i64)]))])) false), (1160005, .box (.dat (.struct [(.arr 101 .bool), (.arr 101 (.struct [(.int .i64), (.int .i64)]))])) false), (1160110, .row (.struct [(.arr 101 .bool), (.arr 101 (.struct [(.int .i64), (.int .i64)]))]) false)] }]
noncomputable def K116_0 : Kept := { todos := [[.inLoop (cAt Tryd.f116 [1, 1, 0, 1, 0, 0]), .inBlock 0, .code (cAt Tryd.f116 [1, 1, 1])]], cs := [noCodes, noCodes] }
noncomputable def K116_2 : Kept := { todos := [[.inLoop (cAt Tryd.f116 [1, 1, 0, 1, 0, 0, 1, 0, 0, 1, 0, 1, 0, 0, 1, 0, 0, 1, 1, 1, 0, 0]), .inBlock 4, .inBlock 3, .code (cAt Tryd.f116 [1, 1, 0, 1, 0, 0, 1, 0, 0, 1, 0, 1, 0, 0, 1, 1]), .inLoop (cAt Tryd.f116 [1, 1, 0, 1, 0, 0, 1, 0, 0, 1, 0, 1, 0, 0]), .inBlock 2, .code (cAt Tryd.f116 [1, 1, 0, 1, 0, 0, 1, 0, 0, 1, 1]), .inBlock 1, .code (cAt Tryd.f116 [1, 1, 0, 1, 0, 0, 1, 1]), .inLoop (cAt Tryd.f116 [1, 1, 0, 1, 0, 0]), .inBlock 0, .code (cAt Tryd.f116 [1, 1, 1])]], cs := [noCodes, noCodes, noCodes] }
noncomputable def F116 : denL [(.struct [(.int .i64), (.slice (.struct [(.int .i64), (.int .i64)]))])] → Option (denL [(.slice (.struct [(.arr 101 .bool), (.arr 101 (.struct [(.int .i64), (.int .i64)]))]))]) := ghost cx19 S116 6000 116 [(.struct [(.int .i64), (.slice (.struct [(.int .i64), (.int .i64)]))])] [(.slice (.struct [(.arr 101 .bool), (.arr 101 (.struct [(.int .i64), (.int .i64)]))]))]
noncomputable def C116 : Con := ⟨[(.struct [(.int .i64), (.slice (.struct [(.int .i64), (.int .i64)]))])], [(.slice (.struct [(.arr 101 .bool), (.arr 101 (.struct [(.int .i64), (.int .i64)]))]))], F116⟩
noncomputable def cx116 : Ctx := cx19.add 116 C116
def S59 : List Gh.Spec := [{ key := (0, 59, 4, 1), frs := [{ fn := 59, n := 47, regs := [(2, (.ptr 590002 [])), (4, (.ptr 590004 [])), (5, (.ptr 590005 [])), (6, (.dat .bool)), (7, (.dat (.int .i64)))], round := none, defers := [] }], heap := [(590002, .box (.dat (.struct [(.int .i64), (.int .i64)])) false), (590004, .box (.dat (.struct [(.arr 101 .bool), (.arr 101 (.struct [(.int .i64), (.int .i64)]))])) false), (590005, .box (.dat (.struct [(.int .i64), (.int .i64)])) false)] }]
noncomputable def F59 : denL [(.struct [(.int .i64), (.slice (.struct [(.int .i64), (.int .i64)]))])] → Option (denL [(.struct [(.int .i64), (.int .i64)]), .bool]) := ghost cx116 S59 6000 59 [(.struct [(.int .i64), (.slice (.struct [(.int .i64), (.int .i64)]))])] [(.struct [(.int .i64), (.int .i64)]), .bool]
noncomputable def C59 : Con := ⟨[(.struct [(.int .i64), (.slice (.struct [(.int .i64), (.int .i64)]))])], [(.struct [(.int .i64), (.int .i64)]), .bool], F59⟩
noncomputable def cx59 : Ctx := cx116.add 59 C59
def S94 : List Gh.Spec := []
noncomputable def F94 : denL [(.struct [(.int .i64), (.slice (.struct [(.int .i64), (.int .i64)]))])] → Option (denL [.bool]) := ghost cx59 S94 6000 94 [(.struct [(.int .i64), (.slice (.struct [(.int .i64), (.int .i64)]))])] [.bool]
noncomputable def C94 : Con := ⟨[(.struct [(.int .i64), (.slice (.struct [(.int .i64), (.int .i64)]))])], [.bool], F94⟩
noncomputable def cx94 : Ctx := cx59.add 94 C94
def S89 : List Gh.Spec := []
noncomputable def F89 : denL [(.struct [(.int .i64), (.slice (.struct [(.int .i64), (.int .i64)]))]), (.int .i64)] → Option (denL [(.int .i64)]) := ghost cx94 S89 6000 89 [(.struct [(.int .i64), (.slice (.struct [(.int .i64), (.int .i64)]))]), (.int .i64)] [(.int .i64)]
noncomputable def C89 : Con := ⟨[(.struct [(.int .i64), (.slice (.struct [(.int .i64), (.int .i64)]))]), (.int .i64)], [(.int .i64)], F89⟩
noncomputable def cx89 : Ctx := cx94.add 89 C89
def S90 : List Gh.Spec := []
noncomputable def F90 : denL [(.struct [(.int .i64), (.slice (.struct [(.int .i64), (.int .i64)]))]), (.int .i64)] → Option (denL [(.int .i64)]) := ghost cx89 S90 6000 90 [(.struct [(.int .i64), (.slice (.struct [(.int .i64), (.int .i64)]))]), (.int .i64)] [(.int .i64)]
noncomputable def C90 : Con := ⟨[(.struct [(.int .i64), (.slice (.struct [(.int .i64), (.int .i64)]))]), (.int .i64)], [(.int .i64)], F90⟩
noncomputable def cx90 : Ctx := cx89.add 90 C90
def S62 : List Gh.Spec := [{ key := (0, 62, 3, 1), frs := [{ fn := 62, n := 24, regs := [(1, (.ptr 620001 [])), (2, (.ptr 620002 [])), (3, (.row 620020)), (4, (.dat (.int .i64)))], round := none, defers := [] }], heap := [(620001, .box (.dat (.struct [(.int .i64), (.slice (.struct [(.int .i64), (.int .i64)]))])) false), (620002, .box (.dat (.struct [(.int .i64), (.slice (.struct [(.int .i64), (.int .i64)]))])) false), (620020, .row (.struct [(.int .i64), (.int .i64)]) false)] }]
noncomputable def F62 : denL [(.struct [(.int .i64), (.slice (.struct [(.int .i64), (.int .i64)]))])] → Option (denL [(.struct [(.int .i64), (.slice (.struct [(.int .i64), (.int .i64)]))])]) := ghost cx90 S62 6000 62 [(.struct [(.int .i64), (.slice (.struct [(.int .i64), (.int .i64)]))])] [(.struct [(.int .i64), (.slice (.struct [(.int .i64), (.int .i64)]))])]
noncomputable def C62 : Con := ⟨[(.struct [(.int .i64), (.slice (.struct [(.int .i64), (.int .i64)]))])], [(.struct [(.int .i64), (.slice (.struct [(.int .i64), (.int .i64)]))])], F62⟩
noncomputable def cx62 : Ctx := cx90.add 62 C62
def S61 : List Gh.Spec := [{ key := (0, 61, 4, 1), frs := [{ fn := 61, n := 44, regs := [(5, (.ptr 610005 [])), (6, (.ptr 610006 [])), (7, (.row 610042)), (8, (.dat (.int .i64)))], round := none, defers := [] }], heap := [(610005, .box (.dat (.struct [(.arr 101 .bool), (.arr 101 (.struct [(.int .i64), (.int .i64)]))])) false), (610006, .box (.dat (.struct [(.arr 101 .bool), (.arr 101 (.struct [(.int .i64), (.int .i64)]))])) false), (610042, .row (.int .i64) false)] }]
noncomputable def F61 : denL [(.struct [(.int .i64), (.slice (.struct [(.int .i64), (.int .i64)]))]), (.int .i64)] → Option (denL [(.slice (.int .i64))]) := ghost cx62 S61 6000 61 [(.struct [(.int .i64), (.slice (.struct [(.int .i64), (.int .i64)]))]), (.int .i64)] [(.slice (.int .i64))]
noncomputable def C61 : Con := ⟨[(.struct [(.int .i64), (.slice (.struct [(.int .i64), (.int .i64)]))]), (.int .i64)], [(.slice (.int .i64))], F61⟩
noncomputable def cx61 : Ctx := cx62.add 61 C61
def S21 : List Gh.Spec := []
noncomputable def F21 : denL [(.struct [(.int .i64), (.slice (.struct [(.int .i64), (.int .i64)]))]), (.int .i64)] → Option (denL [(.struct [(.int .i64), (.int .i64)]), (.int .i64)]) := ghost cx61 S21 6000 21 [(.struct [(.int .i64), (.slice (.struct [(.int .i64), (.int .i64)]))]), (.int .i64)] [(.struct [(.int .i64), (.int .i64)]), (.int .i64)]
noncomputable def C21 : Con := ⟨[(.struct [(.int .i64), (.slice (.struct [(.int .i64), (.int .i64)]))]), (.int .i64)], [(.struct [(.int .i64), (.int .i64)]), (.int .i64)], F21⟩
noncomputable def cx21 : Ctx := cx61.add 21 C21
def S113 : List Gh.Spec := [{ key := (0, 113, 1, 1), frs := [{ fn := 113, n := 14, regs := [(0, (.dat (.int .i64))), (1, (.dat (.int .i64)))], round := none, defers := [] }], heap := [] }]
noncomputable def F113 : denL [(.int .i64), (.int .i64)] → Option (denL [(.int .i64)]) := ghost cx21 S113 6000 113 [(.int .i64), (.int .i64)] [(.int .i64)]
noncomputable def C113 : Con := ⟨[(.int .i64), (.int .i64)], [(.int .i64)], F113⟩
noncomputable def cx113 : Ctx := cx21.add 113 C113
def S43 : List Gh.Spec := []
noncomputable def F43 : denL [(.int .i64), (.int .i64)] → Option (denL [(.struct [(.int .i64), (.int .i64)])]) := ghost cx113 S43 6000 43 [(.int .i64), (.int .i64)] [(.struct [(.int .i64), (.int .i64)])]
noncomputable def C43 : Con := ⟨[(.int .i64), (.int .i64)], [(.struct [(.int .i64), (.int .i64)])], F43⟩
noncomputable def cx43 : Ctx := cx113.add 43 C43
def S93 : List Gh.Spec := []
noncomputable def F93 : denL [(.struct [(.int .i64), (.int .i64)]), (.struct [(.int .i64), (.slice (.struct [(.int .i64), (.int .i64)]))])] → Option (denL [(.struct [(.int .i64), (.int .i64)]), (.struct [(.int .i64), (.int .i64)])]) := ghost cx43 S93 6000 93 [(.struct [(.int .i64), (.int .i64)]), (.struct [(.int .i64), (.slice (.struct [(.int .i64), (.int .i64)]))])] [(.struct [(.int .i64), (.int .i64)]), (.struct [(.int .i64), (.int .i64)])]
noncomputable def C93 : Con := ⟨[(.struct [(.int .i64), (.int .i64)]), (.struct [(.int .i64), (.slice (.struct [(.int .i64), (.int .i64)]))])], [(.struct [(.int .i64), (.int .i64)]), (.struct [(.int .i64), (.int .i64)])], F93⟩
noncomputable def cx93 : Ctx := cx43.add 93 C93
def S24 : List Gh.Spec := []
noncomputable def F24 : denL [(.struct [(.int .i64), (.slice (.struct [(.int .i64), (.int .i64)]))])] → Option (denL [(.struct [(.int .i64), (.int .i64)]), (.struct [(.int .i64), (.int .i64)]), (.int .i64)]) := ghost cx93 S24 6000 24 [(.struct [(.int .i64), (.slice (.struct [(.int .i64), (.int .i64)]))])] [(.struct [(.int .i64), (.int .i64)]), (.struct [(.int .i64), (.int .i64)]), (.int .i64)]
noncomputable def C24 : Con := ⟨[(.struct [(.int .i64), (.slice (.struct [(.int .i64), (.int .i64)]))])], [(.struct [(.int .i64), (.int .i64)]), (.struct [(.int .i64), (.int .i64)]), (.int .i64)], F24⟩
noncomputable def cx24 : Ctx := cx93.add 24 C24
def S55 : List Gh.Spec := []
noncomputable def F55 : denL [(.struct [(.int .i64), (.slice (.struct [(.int .i64), (.int .i64)]))]), (.int .i64), (.int .i64)] → Option (denL [(.struct [(.int .i64), (.slice (.struct [(.int .i64), (.int .i64)]))])]) := ghost cx24 S55 6000 55 [(.struct [(.int .i64), (.slice (.struct [(.int .i64), (.int .i64)]))]), (.int .i64), (.int .i64)] [(.struct [(.int .i64), (.slice (.struct [(.int .i64), (.int .i64)]))])]
noncomputable def C55 : Con := ⟨[(.struct [(.int .i64), (.slice (.struct [(.int .i64), (.int .i64)]))]), (.int .i64), (.int .i64)], [(.struct [(.int .i64), (.slice (.struct [(.int .i64), (.int .i64)]))])], F55⟩
noncomputable def cx55 : Ctx := cx24.add 55 C55
def S26 : List Gh.Spec := []
noncomputable def F26 : denL [(.struct [(.int .i64), (.slice (.struct [(.int .i64), (.int .i64)]))]), (.int .i64), (.int .i64)] → Option (denL [(.struct [(.int .i64), (.int .i64)]), (.struct [(.int .i64), (.int .i64)]), (.int .i64)]) := ghost cx55 S26 6000 26 [(.struct [(.int .i64), (.slice (.struct [(.int .i64), (.int .i64)]))]), (.int .i64), (.int .i64)] [(.struct [(.int .i64), (.int .i64)]), (.struct [(.int .i64), (.int .i64)]), (.int .i64)]
noncomputable def C26 : Con := ⟨[(.struct [(.int .i64), (.slice (.struct [(.int .i64), (.int .i64)]))]), (.int .i64), (.int .i64)], [(.struct [(.int .i64), (.int .i64)]), (.struct [(.int .i64), (.int .i64)]), (.int .i64)], F26⟩
noncomputable def cx26 : Ctx := cx55.add 26 C26
end Go.Proofs.YtjigflnjgmgmnaaDoor
