/- What the ghost comes to: helpers of the outright statements. Conditions: none (equations, each by computation). -/
import Derived.Test.YtkbephbhajplhaaDoorCyV
import Derived.Test.YtkbephbhajplhaaDoorGhI
import Derived.Test.YtkbephbhajplhaaDoorCyY
namespace Go.Proofs.YtkbephbhajplhaaDoor
open Go Go.Gh Go.Proofs
def S109 : List Gh.Spec := []
noncomputable def F109 : denL [(.slice (.int .u8)), (.int .i64)] → Option (denL [(.int .i64)]) := ghost cx23 S109 6000 109 [(.slice (.int .u8)), (.int .i64)] [(.int .i64)]
noncomputable def C109 : Con := ⟨[(.slice (.int .u8)), (.int .i64)], [(.int .i64)], F109⟩
noncomputable def cx109 : Ctx := cx23.add 109 C109
def S38 : List Gh.Spec := []
abbrev GT38 : Type := (n : Nat) → Kept → denK (specAt S38 n) → Option (denL [.bool])
theorem E38 (G : GT38) (t0 : Se) : enter cx109 S38 [.bool] 6000 some G 38 [tSe] (t0, ()) =
  Option.bind (F18 (t0, ())) fun (y : Int × Int × Int × Unit) => some (Prod.fst (Prod.snd (Prod.snd y)) == 0, ()) := by kernel_rfl
noncomputable def F38 : denL [tSe] → Option (denL [.bool]) := ghost cx109 S38 6000 38 [tSe] [.bool]
noncomputable def C38 : Con := ⟨[tSe], [.bool], F38⟩
noncomputable def cx38 : Ctx := cx109.add 38 C38
def S51 : List Gh.Spec := []
noncomputable def F51 : denL [tSe] → Option (denL [.bool]) := ghost cx38 S51 6000 51 [tSe] [.bool]
noncomputable def C51 : Con := ⟨[tSe], [.bool], F51⟩
noncomputable def cx51 : Ctx := cx38.add 51 C51
def S39 : List Gh.Spec := [{ key := (0, 39, 3, 1), frs := [{ fn := 39, n := 98, regs := [(1, (.dat (.slice (.int .u8)))), (2, (.dat (.slice (.int .u8)))), (3, (.ptr 390003 [])), (6, (.ptr 390006 [])), (8, (.row 390041)), (9, (.dat (.int .i64)))], round := none, defers := [] }], heap := [(390003, .box (.dat tSe) false), (390006, .box (.dat tSe) false), (390041, .row (.int .i64) false)] }, { key := (0, 39, 9, 1), frs := [{ fn := 39, n := 98, regs := [(2, (.dat (.slice (.int .u8)))), (3, (.ptr 390003 [])), (6, (.ptr 390006 [])), (8, (.row 390041)), (11, (.dat (.int .i64)))], round := none, defers := [] }], heap := [(390003, .box (.agg [(.dat (.slice tSp)), (.row 390045), (.dat tSp)]) false), (390006, .box (.dat tSe) false), (390041, .row (.int .i64) true), (390045, .row tSm false)] }]
noncomputable def F39 : denL [tSe, (.slice (.int .u8)), (.slice (.int .u8))] → Option (denL [tSe, (.slice (.int .i64))]) := ghost cx51 S39 6000 39 [tSe, (.slice (.int .u8)), (.slice (.int .u8))] [tSe, (.slice (.int .i64))]
noncomputable def C39 : Con := ⟨[tSe, (.slice (.int .u8)), (.slice (.int .u8))], [tSe, (.slice (.int .i64))], F39⟩
noncomputable def cx39 : Ctx := cx51.add 39 C39
def S43 : List Gh.Spec := []
noncomputable def F43 : denL [(.int .i64), .bool] → Option (denL [.bool]) := ghost cx39 S43 6000 43 [(.int .i64), .bool] [.bool]
noncomputable def C43 : Con := ⟨[(.int .i64), .bool], [.bool], F43⟩
noncomputable def cx43 : Ctx := cx39.add 43 C43
def S45 : List Gh.Spec := []
noncomputable def F45 : denL [tSp] → Option (denL [.bool]) := ghost cx43 S45 6000 45 [tSp] [.bool]
noncomputable def C45 : Con := ⟨[tSp], [.bool], F45⟩
noncomputable def cx45 : Ctx := cx43.add 45 C45
def S48 : List Gh.Spec := []
noncomputable def F48 : denL [tSp, tSp] → Option (denL [.bool]) := ghost cx45 S48 6000 48 [tSp, tSp] [.bool]
noncomputable def C48 : Con := ⟨[tSp, tSp], [.bool], F48⟩
noncomputable def cx48 : Ctx := cx45.add 48 C48
def S53 : List Gh.Spec := [{ key := (0, 53, 1, 1), frs := [{ fn := 53, n := 14, regs := [(0, (.dat (.int .i64))), (1, (.dat (.int .i64)))], round := none, defers := [] }], heap := [] }]
noncomputable def F53 : denL [(.int .i64), (.int .i64)] → Option (denL [.bool]) := ghost cx48 S53 6000 53 [(.int .i64), (.int .i64)] [.bool]
noncomputable def C53 : Con := ⟨[(.int .i64), (.int .i64)], [.bool], F53⟩
noncomputable def cx53 : Ctx := cx48.add 53 C53
def S55 : List Gh.Spec := [{ key := (0, 55, 2, 1), frs := [{ fn := 55, n := 36, regs := [(0, (.dat (.slice (.int .i64)))), (1, (.dat (.int .i64))), (5, (.dat (.int .i64)))], round := none, defers := [] }], heap := [] }]
noncomputable def F55 : denL [(.slice (.int .i64)), (.int .i64)] → Option (denL [.bool]) := ghost cx53 S55 6000 55 [(.slice (.int .i64)), (.int .i64)] [.bool]
noncomputable def C55 : Con := ⟨[(.slice (.int .i64)), (.int .i64)], [.bool], F55⟩
noncomputable def cx55 : Ctx := cx53.add 55 C55
def S56 : List Gh.Spec := []
noncomputable def F56 : denL [(.slice (.int .i64)), (.slice (.int .i64))] → Option (denL [.bool]) := ghost cx55 S56 6000 56 [(.slice (.int .i64)), (.slice (.int .i64))] [.bool]
noncomputable def C56 : Con := ⟨[(.slice (.int .i64)), (.slice (.int .i64))], [.bool], F56⟩
noncomputable def cx56 : Ctx := cx55.add 56 C56
def S57 : List Gh.Spec := []
noncomputable def F57 : denL [tSp, tSp] → Option (denL [.bool]) := ghost cx56 S57 6000 57 [tSp, tSp] [.bool]
noncomputable def C57 : Con := ⟨[tSp, tSp], [.bool], F57⟩
noncomputable def cx57 : Ctx := cx56.add 57 C57
def S58 : List Gh.Spec := [{ key := (0, 58, 2, 1), frs := [{ fn := 58, n := 19, regs := [(0, (.dat (.slice (.int .i64)))), (1, (.dat (.slice (.int .i64)))), (5, (.dat (.int .i64)))], round := none, defers := [] }], heap := [] }]
noncomputable def F58 : denL [(.slice (.int .i64)), (.slice (.int .i64))] → Option (denL [.bool]) := ghost cx57 S58 6000 58 [(.slice (.int .i64)), (.slice (.int .i64))] [.bool]
noncomputable def C58 : Con := ⟨[(.slice (.int .i64)), (.slice (.int .i64))], [.bool], F58⟩
noncomputable def cx58 : Ctx := cx57.add 58 C58
theorem N38 (t0 : Se) {y : denL [.bool]} (h : Ev fun k =>
 (Option.bind (F18 (t0, ())) fun (y : Int × Int × Int × Unit) => some (Prod.fst (Prod.snd (Prod.snd y)) == 0, ()) : Option (denL [.bool])) = some y) : F38 (t0, ()) = some y := ghost_eq (Ev.eq (fun _ => E38 _ _) h)
end Go.Proofs.YtkbephbhajplhaaDoor
/- What helpers of the outright statements come to. Conditions: as each lemma states. -/
namespace Go.Proofs.YtkbephbhajplhaaDoor
open Go Go.Gh Go.Proofs Go.Few
theorem L38 (s : Se) : F38 ((s, ()) : Se × Unit) = some ((chkP s).2.2.1 == 0, ()) := by
 refine N38 _ ?_
 rw [L18]
 exact Ev.all fun _ => by first | rfl | trivial
end Go.Proofs.YtkbephbhajplhaaDoor
