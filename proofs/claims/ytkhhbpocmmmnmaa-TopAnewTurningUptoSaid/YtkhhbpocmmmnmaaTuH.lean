/- What the ghost comes to: helpers of the outright statements. Conditions: none (equations, each by computation). -/
import Derived.Test.YtkhhbpocmmmnmaaTuG
import Derived.Test.YtkhhbpocmmmnmaaTuK
namespace Go.Proofs.Ytkhhbpocmmmnmaa
open Go Go.Gh Go.Proofs
def S40 : List Gh.Spec := []
noncomputable def F40 : denL [tSu] → Option (denL [.bool]) := ghost cx6 S40 6000 40 [tSu] [.bool]
noncomputable def C40 : Con := ⟨[tSu], [.bool], F40⟩
noncomputable def cx40 : Ctx := cx6.add 40 C40
def S47 : List Gh.Spec := []
noncomputable def F47 : denL [tSu] → Option (denL [.bool]) := ghost cx40 S47 6000 47 [tSu] [.bool]
noncomputable def C47 : Con := ⟨[tSu], [.bool], F47⟩
noncomputable def cx47 : Ctx := cx40.add 47 C47
def S51 : List Gh.Spec := []
noncomputable def F51 : denL [tSu] → Option (denL [tSu]) := ghost cx47 S51 6000 51 [tSu] [tSu]
noncomputable def C51 : Con := ⟨[tSu], [tSu], F51⟩
noncomputable def cx51 : Ctx := cx47.add 51 C51
def S42 : List Gh.Spec := []
noncomputable def F42 : denL [(.int .i64), tSp] → Option (denL [.bool]) := ghost cx51 S42 6000 42 [(.int .i64), tSp] [.bool]
noncomputable def C42 : Con := ⟨[(.int .i64), tSp], [.bool], F42⟩
noncomputable def cx42 : Ctx := cx51.add 42 C42
def S45 : List Gh.Spec := []
noncomputable def F45 : denL [(.int .i64), .bool] → Option (denL [.bool]) := ghost cx42 S45 6000 45 [(.int .i64), .bool] [.bool]
noncomputable def C45 : Con := ⟨[(.int .i64), .bool], [.bool], F45⟩
noncomputable def cx45 : Ctx := cx42.add 45 C45
def S50 : List Gh.Spec := [{ key := (0, 50, 1, 1), frs := [{ fn := 50, n := 14, regs := [(0, (.dat (.int .i64))), (1, (.dat (.int .i64)))], round := none, defers := [] }], heap := [] }]
noncomputable def F50 : denL [(.int .i64), (.int .i64)] → Option (denL [.bool]) := ghost cx45 S50 6000 50 [(.int .i64), (.int .i64)] [.bool]
noncomputable def C50 : Con := ⟨[(.int .i64), (.int .i64)], [.bool], F50⟩
noncomputable def cx50 : Ctx := cx45.add 50 C50
def S52 : List Gh.Spec := [{ key := (0, 52, 2, 1), frs := [{ fn := 52, n := 36, regs := [(0, (.dat (.slice (.int .i64)))), (1, (.dat (.int .i64))), (5, (.dat (.int .i64)))], round := none, defers := [] }], heap := [] }]
noncomputable def F52 : denL [(.slice (.int .i64)), (.int .i64)] → Option (denL [.bool]) := ghost cx50 S52 6000 52 [(.slice (.int .i64)), (.int .i64)] [.bool]
noncomputable def C52 : Con := ⟨[(.slice (.int .i64)), (.int .i64)], [.bool], F52⟩
noncomputable def cx52 : Ctx := cx50.add 52 C52
def S53 : List Gh.Spec := []
noncomputable def F53 : denL [(.slice (.int .i64)), (.slice (.int .i64))] → Option (denL [.bool]) := ghost cx52 S53 6000 53 [(.slice (.int .i64)), (.slice (.int .i64))] [.bool]
noncomputable def C53 : Con := ⟨[(.slice (.int .i64)), (.slice (.int .i64))], [.bool], F53⟩
noncomputable def cx53 : Ctx := cx52.add 53 C53
def S54 : List Gh.Spec := []
noncomputable def F54 : denL [tSp, tSp] → Option (denL [.bool]) := ghost cx53 S54 6000 54 [tSp, tSp] [.bool]
noncomputable def C54 : Con := ⟨[tSp, tSp], [.bool], F54⟩
noncomputable def cx54 : Ctx := cx53.add 54 C54
def S56 : List Gh.Spec := []
noncomputable def F56 : denL [(.int .i64), (.int .i64), (.int .i64)] → Option (denL [.bool]) := ghost cx54 S56 6000 56 [(.int .i64), (.int .i64), (.int .i64)] [.bool]
noncomputable def C56 : Con := ⟨[(.int .i64), (.int .i64), (.int .i64)], [.bool], F56⟩
noncomputable def cx56 : Ctx := cx54.add 56 C56
def S41 : List Gh.Spec := [{ key := (0, 41, 7, 1), frs := [{ fn := 41, n := 65, regs := [(2, (.ptr 410002 [])), (4, (.ptr 410004 [])), (5, (.ptr 410005 [])), (8, (.ptr 410008 [])), (9, (.dat (.int .i64)))], round := none, defers := [] }], heap := [(410002, .box (.agg [(.dat (.slice tSp)), (.dat (.int .i64)), (.dat (.slice tSn)), (.row 410030)]) false), (410004, .box (.dat tSu) false), (410005, .box (.dat (.struct [(.slice (.int .i64)), (.slice (.int .i64))])) false), (410008, .box (.dat (.struct [(.slice (.int .i64)), (.slice (.int .i64))])) false), (410030, .row tTl false)] }]
noncomputable def F41 : denL [tSu, (.int .u16)] → Option (denL [tSu, (.struct [(.slice (.int .i64)), (.slice (.int .i64))]), .bool]) := ghost cx56 S41 6000 41 [tSu, (.int .u16)] [tSu, (.struct [(.slice (.int .i64)), (.slice (.int .i64))]), .bool]
noncomputable def C41 : Con := ⟨[tSu, (.int .u16)], [tSu, (.struct [(.slice (.int .i64)), (.slice (.int .i64))]), .bool], F41⟩
noncomputable def cx41 : Ctx := cx56.add 41 C41
end Go.Proofs.Ytkhhbpocmmmnmaa
/- The contexts, one function after another, are the program's. Conditions: none. -/
namespace Go.Proofs.Ytkhhbpocmmmnmaa
open Go Go.Gh Go.Proofs
theorem ok40 : CtxOK' cx40 := CtxOK'.add ok6 (f := 40) (c := C40) (ghost_ok ok6 S40 6000 40 _ _) (fn_is (List.mem_range.2 (by decide)) (by kernel_rfl))
theorem ok47 : CtxOK' cx47 := CtxOK'.add ok40 (f := 47) (c := C47) (ghost_ok ok40 S47 6000 47 _ _) (fn_is (List.mem_range.2 (by decide)) (by kernel_rfl))
theorem ok51 : CtxOK' cx51 := CtxOK'.add ok47 (f := 51) (c := C51) (ghost_ok ok47 S51 6000 51 _ _) (fn_is (List.mem_range.2 (by decide)) (by kernel_rfl))
theorem ok42 : CtxOK' cx42 := CtxOK'.add ok51 (f := 42) (c := C42) (ghost_ok ok51 S42 6000 42 _ _) (fn_is (List.mem_range.2 (by decide)) (by kernel_rfl))
theorem ok45 : CtxOK' cx45 := CtxOK'.add ok42 (f := 45) (c := C45) (ghost_ok ok42 S45 6000 45 _ _) (fn_is (List.mem_range.2 (by decide)) (by kernel_rfl))
theorem ok50 : CtxOK' cx50 := CtxOK'.add ok45 (f := 50) (c := C50) (ghost_ok ok45 S50 6000 50 _ _) (fn_is (List.mem_range.2 (by decide)) (by kernel_rfl))
theorem ok52 : CtxOK' cx52 := CtxOK'.add ok50 (f := 52) (c := C52) (ghost_ok ok50 S52 6000 52 _ _) (fn_is (List.mem_range.2 (by decide)) (by kernel_rfl))
theorem ok53 : CtxOK' cx53 := CtxOK'.add ok52 (f := 53) (c := C53) (ghost_ok ok52 S53 6000 53 _ _) (fn_is (List.mem_range.2 (by decide)) (by kernel_rfl))
theorem ok54 : CtxOK' cx54 := CtxOK'.add ok53 (f := 54) (c := C54) (ghost_ok ok53 S54 6000 54 _ _) (fn_is (List.mem_range.2 (by decide)) (by kernel_rfl))
theorem ok56 : CtxOK' cx56 := CtxOK'.add ok54 (f := 56) (c := C56) (ghost_ok ok54 S56 6000 56 _ _) (fn_is (List.mem_range.2 (by decide)) (by kernel_rfl))
theorem ok41 : CtxOK' cx41 := CtxOK'.add ok56 (f := 41) (c := C41) (ghost_ok ok56 S41 6000 41 _ _) (fn_is (List.mem_range.2 (by decide)) (by kernel_rfl))
end Go.Proofs.Ytkhhbpocmmmnmaa
/- The context for laws 12, 14, 16: appends to lists that may be as long as memory lets them be. Conditions: none. -/
namespace Go.Proofs.Ytkhhbpocmmmnmaa
open Go Go.Gh Go.Proofs
end Go.Proofs.Ytkhhbpocmmmnmaa
