/- What the ghost comes to: helpers of the outright statements. Conditions: none (equations, each by computation). -/
import Derived.Test.YtjigflnjgmgmnaaDoorClD
namespace Go.Proofs.YtjigflnjgmgmnaaDoor
open Go Go.Gh Go.Proofs
def S51 : List Gh.Spec := [{ key := (0, 51, 1, 1), frs := [{ fn := 51, n := 14, regs := [(0, (.dat (.int .i64))), (1, (.dat (.int .i64)))], round := none, defers := [] }], heap := [] }]
noncomputable def F51 : denL [(.int .i64), (.int .i64)] → Option (denL [.bool]) := ghost cx22 S51 6000 51 [(.int .i64), (.int .i64)] [.bool]
noncomputable def C51 : Con := ⟨[(.int .i64), (.int .i64)], [.bool], F51⟩
noncomputable def cx51 : Ctx := cx22.add 51 C51
def S112 : List Gh.Spec := []
noncomputable def F112 : denL [(.slice (.int .u8)), (.int .i64)] → Option (denL [(.int .i64)]) := ghost cx51 S112 6000 112 [(.slice (.int .u8)), (.int .i64)] [(.int .i64)]
noncomputable def C112 : Con := ⟨[(.slice (.int .u8)), (.int .i64)], [(.int .i64)], F112⟩
noncomputable def cx112 : Ctx := cx51.add 112 C112
def S45 : List Gh.Spec := []
noncomputable def F45 : denL [(.int .i64), (.struct [(.int .i64), (.int .i64)])] → Option (denL [.bool]) := ghost cx112 S45 6000 45 [(.int .i64), (.struct [(.int .i64), (.int .i64)])] [.bool]
noncomputable def C45 : Con := ⟨[(.int .i64), (.struct [(.int .i64), (.int .i64)])], [.bool], F45⟩
noncomputable def cx45 : Ctx := cx112.add 45 C45
def S46 : List Gh.Spec := [{ key := (0, 46, 2, 1), frs := [{ fn := 46, n := 18, regs := [(0, (.dat (.slice (.int .i64)))), (1, (.dat (.int .i64))), (5, (.dat (.int .i64)))], round := none, defers := [] }], heap := [] }]
noncomputable def F46 : denL [(.slice (.int .i64)), (.int .i64)] → Option (denL [.bool]) := ghost cx45 S46 6000 46 [(.slice (.int .i64)), (.int .i64)] [.bool]
noncomputable def C46 : Con := ⟨[(.slice (.int .i64)), (.int .i64)], [.bool], F46⟩
noncomputable def cx46 : Ctx := cx45.add 46 C46
def S115 : List Gh.Spec := [{ key := (0, 115, 2, 1), frs := [{ fn := 115, n := 41, regs := [(0, (.dat (.slice (.int .i64)))), (1, (.dat (.slice (.int .i64)))), (5, (.dat (.int .i64)))], round := none, defers := [] }], heap := [] }]
noncomputable def F115 : denL [(.slice (.int .i64)), (.slice (.int .i64))] → Option (denL [.bool]) := ghost cx46 S115 6000 115 [(.slice (.int .i64)), (.slice (.int .i64))] [.bool]
noncomputable def C115 : Con := ⟨[(.slice (.int .i64)), (.slice (.int .i64))], [.bool], F115⟩
noncomputable def cx115 : Ctx := cx46.add 115 C115
def S114 : List Gh.Spec := []
noncomputable def F114 : denL [(.struct [(.int .i64), (.int .i64)]), (.struct [(.int .i64), (.int .i64)])] → Option (denL [.bool]) := ghost cx115 S114 6000 114 [(.struct [(.int .i64), (.int .i64)]), (.struct [(.int .i64), (.int .i64)])] [.bool]
noncomputable def C114 : Con := ⟨[(.struct [(.int .i64), (.int .i64)]), (.struct [(.int .i64), (.int .i64)])], [.bool], F114⟩
noncomputable def cx114 : Ctx := cx115.add 114 C114
def S53 : List Gh.Spec := [{ key := (0, 53, 2, 1), frs := [{ fn := 53, n := 36, regs := [(0, (.dat (.slice (.int .i64)))), (1, (.dat (.int .i64))), (5, (.dat (.int .i64)))], round := none, defers := [] }], heap := [] }]
noncomputable def F53 : denL [(.slice (.int .i64)), (.int .i64)] → Option (denL [.bool]) := ghost cx114 S53 6000 53 [(.slice (.int .i64)), (.int .i64)] [.bool]
noncomputable def C53 : Con := ⟨[(.slice (.int .i64)), (.int .i64)], [.bool], F53⟩
noncomputable def cx53 : Ctx := cx114.add 53 C53
def S54 : List Gh.Spec := []
noncomputable def F54 : denL [(.slice (.int .i64)), (.slice (.int .i64))] → Option (denL [.bool]) := ghost cx53 S54 6000 54 [(.slice (.int .i64)), (.slice (.int .i64))] [.bool]
noncomputable def C54 : Con := ⟨[(.slice (.int .i64)), (.slice (.int .i64))], [.bool], F54⟩
noncomputable def cx54 : Ctx := cx53.add 54 C54
def S57 : List Gh.Spec := [{ key := (0, 57, 2, 1), frs := [{ fn := 57, n := 19, regs := [(0, (.dat (.slice (.int .i64)))), (1, (.dat (.slice (.int .i64)))), (5, (.dat (.int .i64)))], round := none, defers := [] }], heap := [] }]
noncomputable def F57 : denL [(.slice (.int .i64)), (.slice (.int .i64))] → Option (denL [.bool]) := ghost cx54 S57 6000 57 [(.slice (.int .i64)), (.slice (.int .i64))] [.bool]
noncomputable def C57 : Con := ⟨[(.slice (.int .i64)), (.slice (.int .i64))], [.bool], F57⟩
noncomputable def cx57 : Ctx := cx54.add 57 C57
def S58 : List Gh.Spec := []
noncomputable def F58 : denL [(.struct [(.int .i64), (.int .i64)]), (.struct [(.int .i64), (.int .i64)])] → Option (denL [.bool]) := ghost cx57 S58 6000 58 [(.struct [(.int .i64), (.int .i64)]), (.struct [(.int .i64), (.int .i64)])] [.bool]
noncomputable def C58 : Con := ⟨[(.struct [(.int .i64), (.int .i64)]), (.struct [(.int .i64), (.int .i64)])], [.bool], F58⟩
noncomputable def cx58 : Ctx := cx57.add 58 C58
def S44 : List Gh.Spec := []
noncomputable def F44 : denL [(.struct [(.int .i64), (.int .i64)]), (.struct [(.int .i64), (.int .i64)]), (.struct [(.int .i64), (.int .i64)]), (.struct [(.int .i64), (.int .i64)])] → Option (denL [.bool]) := ghost cx58 S44 6000 44 [(.struct [(.int .i64), (.int .i64)]), (.struct [(.int .i64), (.int .i64)]), (.struct [(.int .i64), (.int .i64)]), (.struct [(.int .i64), (.int .i64)])] [.bool]
noncomputable def C44 : Con := ⟨[(.struct [(.int .i64), (.int .i64)]), (.struct [(.int .i64), (.int .i64)]), (.struct [(.int .i64), (.int .i64)]), (.struct [(.int .i64), (.int .i64)])], [.bool], F44⟩
noncomputable def cx44 : Ctx := cx58.add 44 C44
def S42 : List Gh.Spec := []
noncomputable def F42 : denL [(.struct [(.int .i64), (.int .i64)]), (.int .i64)] → Option (denL [.bool]) := ghost cx44 S42 6000 42 [(.struct [(.int .i64), (.int .i64)]), (.int .i64)] [.bool]
noncomputable def C42 : Con := ⟨[(.struct [(.int .i64), (.int .i64)]), (.int .i64)], [.bool], F42⟩
noncomputable def cx42 : Ctx := cx44.add 42 C42
def S39 : List Gh.Spec := []
theorem E39 (G : (n : Nat) → Kept → denK (specAt S39 n) → Option (denL [.bool])) (t0 : (Int × (List (Int × Int × Unit)) × Unit)) : enter cx42 S39 [.bool] 6000 some G 39 [(.struct [(.int .i64), (.slice (.struct [(.int .i64), (.int .i64)]))])] (t0, ()) =
  Option.bind (F19 (t0, ())) fun (y : Int × Int × Int × Unit) => some (Prod.fst (Prod.snd (Prod.snd y)) == 0, ()) := by kernel_rfl
noncomputable def F39 : denL [(.struct [(.int .i64), (.slice (.struct [(.int .i64), (.int .i64)]))])] → Option (denL [.bool]) := ghost cx42 S39 6000 39 [(.struct [(.int .i64), (.slice (.struct [(.int .i64), (.int .i64)]))])] [.bool]
noncomputable def C39 : Con := ⟨[(.struct [(.int .i64), (.slice (.struct [(.int .i64), (.int .i64)]))])], [.bool], F39⟩
noncomputable def cx39 : Ctx := cx42.add 39 C39
def S47 : List Gh.Spec := []
theorem E47 (G : (n : Nat) → Kept → denK (specAt S47 n) → Option (denL [.bool])) (t0 : (Int × (List (Int × Int × Unit)) × Unit)) : enter cx39 S47 [.bool] 6000 some G 47 [(.struct [(.int .i64), (.slice (.struct [(.int .i64), (.int .i64)]))])] (t0, ()) =
  Option.bind (F39 (t0, ())) fun (y : Bool × Unit) => bif Prod.fst y then Option.bind (F94 (t0, ())) fun (y : Bool × Unit) => some (Prod.fst y, ()) else some (false, ()) := by kernel_rfl
noncomputable def F47 : denL [(.struct [(.int .i64), (.slice (.struct [(.int .i64), (.int .i64)]))])] → Option (denL [.bool]) := ghost cx39 S47 6000 47 [(.struct [(.int .i64), (.slice (.struct [(.int .i64), (.int .i64)]))])] [.bool]
noncomputable def C47 : Con := ⟨[(.struct [(.int .i64), (.slice (.struct [(.int .i64), (.int .i64)]))])], [.bool], F47⟩
noncomputable def cx47 : Ctx := cx39.add 47 C47
noncomputable def cxR : Ctx := { cx47 with rows := fun n => Nat.beq n 400011 }
def S40 : List Gh.Spec := [{ key := (0, 40, 3, 1), frs := [{ fn := 40, n := 43, regs := [(1, (.dat (.slice (.int .u8)))), (2, (.ptr 400002 [])), (5, (.row 400011)), (6, (.dat (.int .i64)))], round := none, defers := [] }], heap := [(400002, .box (.dat (.struct [(.int .i64), (.slice (.struct [(.int .i64), (.int .i64)]))])) false), (400011, .row (.int .i64) false)] }]
noncomputable def F40 : denL [(.struct [(.int .i64), (.slice (.struct [(.int .i64), (.int .i64)]))]), (.slice (.int .u8))] → Option (denL [(.slice (.int .i64))]) := ghost cxR S40 6000 40 [(.struct [(.int .i64), (.slice (.struct [(.int .i64), (.int .i64)]))]), (.slice (.int .u8))] [(.slice (.int .i64))]
noncomputable def C40 : Con := ⟨[(.struct [(.int .i64), (.slice (.struct [(.int .i64), (.int .i64)]))]), (.slice (.int .u8))], [(.slice (.int .i64))], F40⟩
noncomputable def cx40 : Ctx := cxR.add 40 C40
def S41 : List Gh.Spec := [{ key := (0, 41, 3, 1), frs := [{ fn := 41, n := 56, regs := [(1, (.dat (.slice (.int .i64)))), (2, (.dat (.slice (.int .u8)))), (3, (.ptr 410003 [])), (6, (.ptr 410006 [])), (7, (.dat (.int .i64)))], round := none, defers := [] }], heap := [(410003, .box (.agg [(.dat (.int .i64)), (.row 410012)]) false), (410006, .box (.dat (.struct [(.int .i64), (.slice (.struct [(.int .i64), (.int .i64)]))])) false), (410012, .row (.struct [(.int .i64), (.int .i64)]) false)] }]
noncomputable def F41 : denL [(.struct [(.int .i64), (.slice (.struct [(.int .i64), (.int .i64)]))]), (.slice (.int .i64)), (.slice (.int .u8))] → Option (denL [(.struct [(.int .i64), (.slice (.struct [(.int .i64), (.int .i64)]))])]) := ghost cx40 S41 6000 41 [(.struct [(.int .i64), (.slice (.struct [(.int .i64), (.int .i64)]))]), (.slice (.int .i64)), (.slice (.int .u8))] [(.struct [(.int .i64), (.slice (.struct [(.int .i64), (.int .i64)]))])]
noncomputable def C41 : Con := ⟨[(.struct [(.int .i64), (.slice (.struct [(.int .i64), (.int .i64)]))]), (.slice (.int .i64)), (.slice (.int .u8))], [(.struct [(.int .i64), (.slice (.struct [(.int .i64), (.int .i64)]))])], F41⟩
noncomputable def cx41 : Ctx := cx40.add 41 C41
def S49 : List Gh.Spec := [{ key := (0, 49, 3, 1), frs := [{ fn := 49, n := 50, regs := [(1, (.dat (.slice (.int .i64)))), (2, (.ptr 490002 [])), (5, (.dat .bool)), (6, (.dat (.int .i64)))], round := none, defers := [] }], heap := [(490002, .box (.dat (.struct [(.int .i64), (.slice (.struct [(.int .i64), (.int .i64)]))])) false)] }]
noncomputable def K49_0 : Kept := { todos := [[.inLoop (cAt Tryd.f49 [1, 1, 0, 1, 0, 0]), .inBlock 0, .code (cAt Tryd.f49 [1, 1, 1])]], cs := [noCodes] }
noncomputable def F49 : denL [(.struct [(.int .i64), (.slice (.struct [(.int .i64), (.int .i64)]))]), (.slice (.int .i64))] → Option (denL [.bool]) := ghost cx41 S49 6000 49 [(.struct [(.int .i64), (.slice (.struct [(.int .i64), (.int .i64)]))]), (.slice (.int .i64))] [.bool]
noncomputable def C49 : Con := ⟨[(.struct [(.int .i64), (.slice (.struct [(.int .i64), (.int .i64)]))]), (.slice (.int .i64))], [.bool], F49⟩
noncomputable def cx49 : Ctx := cx41.add 49 C49
end Go.Proofs.YtjigflnjgmgmnaaDoor
