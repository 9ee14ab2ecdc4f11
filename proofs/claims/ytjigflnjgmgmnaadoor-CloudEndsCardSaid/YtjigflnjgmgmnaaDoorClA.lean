/- What the ghost comes to: A. Conditions: none (equations, each by computation). -/
import Derived.Test.YtjigflnjgmgmnaaDoorClX
namespace Go.Proofs.YtjigflnjgmgmnaaDoor
open Go Go.Gh Go.Proofs
def S107 : List Gh.Spec := []
theorem E107 (G : (n : Nat) → Kept → denK (specAt S107 n) → Option (denL [(.hnd 0 (.struct [(.struct [(.int .i64), (.slice (.struct [(.int .i64), (.int .i64)]))]), (.int .i64)]))])) (t0 : (Int × (List (Int × Int × Unit)) × Unit)) (t1 : Int) : enter cx0 S107 [(.hnd 0 (.struct [(.struct [(.int .i64), (.slice (.struct [(.int .i64), (.int .i64)]))]), (.int .i64)]))] 6000 some G 107 [(.struct [(.int .i64), (.slice (.struct [(.int .i64), (.int .i64)]))]), (.int .i64)] (t0, (t1, ())) =
  guardP (some (t0, t1, ()) = some (t0, t1, ())) (some (some (t0, t1, ()), ())) := by kernel_rfl
noncomputable def F107 : denL [(.struct [(.int .i64), (.slice (.struct [(.int .i64), (.int .i64)]))]), (.int .i64)] → Option (denL [(.hnd 0 (.struct [(.struct [(.int .i64), (.slice (.struct [(.int .i64), (.int .i64)]))]), (.int .i64)]))]) := ghost cx0 S107 6000 107 [(.struct [(.int .i64), (.slice (.struct [(.int .i64), (.int .i64)]))]), (.int .i64)] [(.hnd 0 (.struct [(.struct [(.int .i64), (.slice (.struct [(.int .i64), (.int .i64)]))]), (.int .i64)]))]
noncomputable def C107 : Con := ⟨[(.struct [(.int .i64), (.slice (.struct [(.int .i64), (.int .i64)]))]), (.int .i64)], [(.hnd 0 (.struct [(.struct [(.int .i64), (.slice (.struct [(.int .i64), (.int .i64)]))]), (.int .i64)]))], F107⟩
noncomputable def cx107 : Ctx := cx0.add 107 C107
def S135 : List Gh.Spec := []
theorem E135 (G : (n : Nat) → Kept → denK (specAt S135 n) → Option (denL [(.struct [(.int .i64), (.int .i64)])])) (t0 : Int) : enter cx107 S135 [(.struct [(.int .i64), (.int .i64)])] 6000 some G 135 [(.int .i64)] (t0, ()) =
  some ((t0, t0, ()), ()) := by kernel_rfl
noncomputable def F135 : denL [(.int .i64)] → Option (denL [(.struct [(.int .i64), (.int .i64)])]) := ghost cx107 S135 6000 135 [(.int .i64)] [(.struct [(.int .i64), (.int .i64)])]
noncomputable def C135 : Con := ⟨[(.int .i64)], [(.struct [(.int .i64), (.int .i64)])], F135⟩
noncomputable def cx135 : Ctx := cx107.add 135 C135
def S136 : List Gh.Spec := []
theorem E136 (G : (n : Nat) → Kept → denK (specAt S136 n) → Option (denL [(.struct [(.int .i64), (.int .i64)])])) (t0 : Int) : enter cx135 S136 [(.struct [(.int .i64), (.int .i64)])] 6000 some G 136 [(.int .i64)] (t0, ()) =
  some ((0, 100, ()), ()) := by kernel_rfl
noncomputable def F136 : denL [(.int .i64)] → Option (denL [(.struct [(.int .i64), (.int .i64)])]) := ghost cx135 S136 6000 136 [(.int .i64)] [(.struct [(.int .i64), (.int .i64)])]
noncomputable def C136 : Con := ⟨[(.int .i64)], [(.struct [(.int .i64), (.int .i64)])], F136⟩
noncomputable def cx136 : Ctx := cx135.add 136 C136
def S137 : List Gh.Spec := []
theorem E137 (G : (n : Nat) → Kept → denK (specAt S137 n) → Option (denL [(.struct [(.int .i64), (.int .i64)])])) (t0 : Int) : enter cx136 S137 [(.struct [(.int .i64), (.int .i64)])] 6000 some G 137 [(.int .i64)] (t0, ()) =
  some ((t0, 100, ()), ()) := by kernel_rfl
noncomputable def F137 : denL [(.int .i64)] → Option (denL [(.struct [(.int .i64), (.int .i64)])]) := ghost cx136 S137 6000 137 [(.int .i64)] [(.struct [(.int .i64), (.int .i64)])]
noncomputable def C137 : Con := ⟨[(.int .i64)], [(.struct [(.int .i64), (.int .i64)])], F137⟩
noncomputable def cx137 : Ctx := cx136.add 137 C137
def S125 : List Gh.Spec := []
theorem E125 (G : (n : Nat) → Kept → denK (specAt S125 n) → Option (denL [(.struct [(.int .i64), (.int .i64)])])) (t0 : (Int × Int × Unit)) (t1 : (Int × Int × Unit)) : enter cx137 S125 [(.struct [(.int .i64), (.int .i64)])] 6000 some G 125 [(.struct [(.int .i64), (.int .i64)]), (.struct [(.int .i64), (.int .i64)])] (t0, (t1, ())) =
  some ((if Prod.fst t1 > Prod.fst t0 then Prod.fst t1 else Prod.fst t0, if Prod.fst (Prod.snd t1) < Prod.fst (Prod.snd t0) then Prod.fst (Prod.snd t1) else Prod.fst (Prod.snd t0), ()), ()) := by kernel_rfl
noncomputable def F125 : denL [(.struct [(.int .i64), (.int .i64)]), (.struct [(.int .i64), (.int .i64)])] → Option (denL [(.struct [(.int .i64), (.int .i64)])]) := ghost cx137 S125 6000 125 [(.struct [(.int .i64), (.int .i64)]), (.struct [(.int .i64), (.int .i64)])] [(.struct [(.int .i64), (.int .i64)])]
noncomputable def C125 : Con := ⟨[(.struct [(.int .i64), (.int .i64)]), (.struct [(.int .i64), (.int .i64)])], [(.struct [(.int .i64), (.int .i64)])], F125⟩
noncomputable def cx125 : Ctx := cx137.add 125 C125
def S126 : List Gh.Spec := []
theorem E126 (G : (n : Nat) → Kept → denK (specAt S126 n) → Option (denL [(.struct [(.int .i64), (.int .i64)])])) (t0 : (Option ((Int × (List (Int × Int × Unit)) × Unit) × Int × Unit))) (t1 : (Int × Int × Unit)) : enter cx125 S126 [(.struct [(.int .i64), (.int .i64)])] 6000 some G 126 [(.hnd 0 (.struct [(.struct [(.int .i64), (.slice (.struct [(.int .i64), (.int .i64)]))]), (.int .i64)])), (.struct [(.int .i64), (.int .i64)])] (t0, (t1, ())) =
  Option.bind t0 fun (y : (Int × List (Int × Int × Unit) × Unit) × Int × Unit) => Option.bind t0 fun (y_1 : (Int × List (Int × Int × Unit) × Unit) × Int × Unit) => some ((IntKind.wrap IntKind.i64 (Prod.fst t1 - Prod.fst (Prod.fst y)), IntKind.wrap IntKind.i64 (Prod.fst (Prod.snd t1) + Prod.fst (Prod.fst y_1)), ()), ()) := by kernel_rfl
noncomputable def F126 : denL [(.hnd 0 (.struct [(.struct [(.int .i64), (.slice (.struct [(.int .i64), (.int .i64)]))]), (.int .i64)])), (.struct [(.int .i64), (.int .i64)])] → Option (denL [(.struct [(.int .i64), (.int .i64)])]) := ghost cx125 S126 6000 126 [(.hnd 0 (.struct [(.struct [(.int .i64), (.slice (.struct [(.int .i64), (.int .i64)]))]), (.int .i64)])), (.struct [(.int .i64), (.int .i64)])] [(.struct [(.int .i64), (.int .i64)])]
noncomputable def C126 : Con := ⟨[(.hnd 0 (.struct [(.struct [(.int .i64), (.slice (.struct [(.int .i64), (.int .i64)]))]), (.int .i64)])), (.struct [(.int .i64), (.int .i64)])], [(.struct [(.int .i64), (.int .i64)])], F126⟩
noncomputable def cx126 : Ctx := cx125.add 126 C126
def S84 : List Gh.Spec := [{ key := (100002400008, 134, 2, 1), frs := [{ fn := 134, n := 19, regs := [(0, (.dat (.slice (.int .i64)))), (1, (.fn 123 [] [(.ptr 840003 []), (.ptr 840004 [])])), (7, (.dat (.int .i64))), (8, (.dat (.int .i64)))], round := none, defers := [] }, { fn := 122, n := 9, regs := [(5, (.dat (.slice (.int .i64)))), (6, (.fn 123 [] [(.ptr 840003 []), (.ptr 840004 [])]))], round := none, defers := [] }, { fn := 84, n := 10, regs := [(7, (.dat (.slice (.int .i64)))), (8, (.fn 123 [] [(.ptr 840003 []), (.ptr 840004 [])]))], round := none, defers := [] }], heap := [(840003, .box (.dat (.int .i64)) false), (840004, .box (.dat (.int .i64)) false)] }]
noncomputable def K84_0 : Kept := { todos := [[.inLoop (cAt Tryd.f134 [1, 0, 1, 0, 0]), .inBlock 0, .code (cAt Tryd.f134 [1, 1])], [.inRegion (oAt Tryd.f122 [1, 0]) [2, 3, 4], .code (cAt Tryd.f122 [1, 1])], [.inRegion (oAt Tryd.f84 [1, 0]) [2, 3], .code (cAt Tryd.f84 [1, 1])]], cs := [noCodes, noCodes] }
theorem E84 (G : (n : Nat) → Kept → denK (specAt S84 n) → Option (denL [.bool])) (t0 : Int) (t1 : Int) (t2 : (List Int)) : enter cx126 S84 [.bool] 6000 some G 84 [(.int .i64), (.int .i64), (.slice (.int .i64))] (t0, (t1, (t2, ()))) =
  G 0 K84_0 (((t2, ((), (), (), ()), (↑(List.length t2) : Int), 0, ()), (t2, ((), (), (), ()), ()), (t2, ((), (), (), ()), ()), ()), t0, t1, ()) := by kernel_rfl
theorem Q84_0 (G : (n : Nat) → Kept → denK (specAt S84 n) → Option (denL [.bool])) (t0 : (List Int)) (t7 : Int) (t8 : Int) (u5 : (List Int)) (v7 : (List Int)) (h0 : Int) (h1 : Int) : seg cx126 S84 [.bool] 6000 some G 0 K84_0 (((t0, (((), ((), ((), ()))), (t7, (t8, ())))), ((u5, (((), ((), ((), ()))), ())), ((v7, (((), ((), ((), ()))), ())), ()))), (h0, (h1, ()))) =
  bif decide (t8 < t7) then
 bif decide (0 ≤ t8) && decide (t8 < (↑(List.length t0) : Int)) then bif decide (List.getD t0 (Int.toNat t8) 0 < h0) then some (decide (t8 ≥ 0), ()) else bif decide (List.getD t0 (Int.toNat t8) 0 > h1) then some (decide (t8 ≥ 0), ()) else G 0 K84_0 (((t0, ((), (), (), ()), t7, IntKind.wrap IntKind.i64 (t8 + 1), ()), (u5, ((), (), (), ()), ()), (v7, ((), (), (), ()), ()), ()), h0, h1, ())
 else none
 else some (false, ()) := by kernel_rfl
noncomputable def F84 : denL [(.int .i64), (.int .i64), (.slice (.int .i64))] → Option (denL [.bool]) := ghost cx126 S84 6000 84 [(.int .i64), (.int .i64), (.slice (.int .i64))] [.bool]
noncomputable def C84 : Con := ⟨[(.int .i64), (.int .i64), (.slice (.int .i64))], [.bool], F84⟩
noncomputable def cx84 : Ctx := cx126.add 84 C84
def S18 : List Gh.Spec := [{ key := (7, 85, 4, 1), frs := [{ fn := 85, n := 35, regs := [(3, (.fn 86 [] [(.ptr 180005 [])])), (19, (.dat (.slice (.struct [(.int .i64), (.int .i64)])))), (20, (.dat (.int .i64))), (21, (.dat (.int .i64)))], round := none, defers := [] }, { fn := 18, n := 21, regs := [(12, (.dat (.slice (.struct [(.int .i64), (.int .i64)])))), (13, (.fn 86 [] [(.ptr 180005 [])]))], round := none, defers := [] }], heap := [(180005, .box (.dat (.int .i64)) false)] }]
noncomputable def K18_0 : Kept := { todos := [[.inLoop (cAt Tryd.f85 [1, 1, 0, 1, 0, 0]), .inBlock 0, .code (cAt Tryd.f85 [1, 1, 1])], [.inRegion (oAt Tryd.f18 [1, 1, 1, 0]) [3, 4, 5, 6, 7, 8], .code (cAt Tryd.f18 [1, 1, 1, 1])]], cs := [noCodes] }
theorem E18 (G : (n : Nat) → Kept → denK (specAt S18 n) → Option (denL [(.int .i64), (.int .i64), (.int .i64)])) (t0 : (Int × (List (Int × Int × Unit)) × Unit)) : enter cx84 S18 [(.int .i64), (.int .i64), (.int .i64)] 6000 some G 18 [(.struct [(.int .i64), (.slice (.struct [(.int .i64), (.int .i64)]))])] (t0, ()) =
  Option.bind (F84 (0, 20, List.set (List.replicate 1 0) 0 (Prod.fst t0), ())) fun (y : Bool × Unit) =>
 bif Prod.fst y then some (1, 0, 7, ()) else Option.bind (F84 (1, 12, List.set (List.replicate 1 0) 0 (↑(List.length (Prod.fst (Prod.snd t0))) : Int), ())) fun (y : Bool × Unit) => bif Prod.fst y then some (2, 0, 3, ()) else G 0 K18_0 (((((), (), ()), Prod.fst (Prod.snd t0), (↑(List.length (Prod.fst (Prod.snd t0))) : Int), 0, ()), (Prod.fst (Prod.snd t0), ((), (), ()), ()), ()), 0, ()) := by kernel_rfl
theorem Q18_0 (G : (n : Nat) → Kept → denK (specAt S18 n) → Option (denL [(.int .i64), (.int .i64), (.int .i64)])) (t19 : (List (Int × Int × Unit))) (t20 : Int) (t21 : Int) (u12 : (List (Int × Int × Unit))) (h0 : Int) : seg cx84 S18 [(.int .i64), (.int .i64), (.int .i64)] 6000 some G 0 K18_0 (((((), ((), ())), (t19, (t20, (t21, ())))), ((u12, (((), ((), ())), ())), ())), (h0, ())) =
  bif decide (t21 < t20) then
 bif decide (0 ≤ t21) && decide (t21 < (↑(List.length t19) : Int)) then
  Option.bind (F84 (0, 3, List.set (List.replicate 1 0) 0 (Prod.fst (List.getD t19 (Int.toNat t21) (0, 0, ()))), ())) fun (y : Bool × Unit) =>
   bif Prod.fst y then some (2, t21, 7, ())
   else
    Option.bind (F84 (0, 100, List.set (List.replicate 1 0) 0 (Prod.fst (Prod.snd (List.getD t19 (Int.toNat t21) (0, 0, ())))), ())) fun (y : Bool × Unit) =>
     bif Prod.fst y then some (2, t21, 7, ())
     else
      bif Prod.fst (List.getD t19 (Int.toNat t21) (0, 0, ())) == 0 then
       bif !eqD (Ty.struct [Ty.int IntKind.i64, Ty.int IntKind.i64]) (List.getD t19 (Int.toNat t21) (0, 0, ())) (0, 0, ()) then some (2, t21, 2, ())
       else
        bif Prod.fst (List.getD t19 (Int.toNat t21) (0, 0, ())) == 3 then bif decide (IntKind.wrap IntKind.i64 (h0 + 1) > 5) then some (2, t21, 3, ()) else G 0 K18_0 (((((), (), ()), t19, t20, IntKind.wrap IntKind.i64 (t21 + 1), ()), (u12, ((), (), ()), ()), ()), IntKind.wrap IntKind.i64 (h0 + 1), ())
        else bif decide (h0 > 5) then some (2, t21, 3, ()) else G 0 K18_0 (((((), (), ()), t19, t20, IntKind.wrap IntKind.i64 (t21 + 1), ()), (u12, ((), (), ()), ()), ()), h0, ())
      else
       bif Prod.fst (List.getD t19 (Int.toNat t21) (0, 0, ())) == 3 then bif decide (IntKind.wrap IntKind.i64 (h0 + 1) > 5) then some (2, t21, 3, ()) else G 0 K18_0 (((((), (), ()), t19, t20, IntKind.wrap IntKind.i64 (t21 + 1), ()), (u12, ((), (), ()), ()), ()), IntKind.wrap IntKind.i64 (h0 + 1), ())
       else bif decide (h0 > 5) then some (2, t21, 3, ()) else G 0 K18_0 (((((), (), ()), t19, t20, IntKind.wrap IntKind.i64 (t21 + 1), ()), (u12, ((), (), ()), ()), ()), h0, ())
 else none
 else some (0, 0, 0, ()) := by kernel_rfl
noncomputable def F18 : denL [(.struct [(.int .i64), (.slice (.struct [(.int .i64), (.int .i64)]))])] → Option (denL [(.int .i64), (.int .i64), (.int .i64)]) := ghost cx84 S18 6000 18 [(.struct [(.int .i64), (.slice (.struct [(.int .i64), (.int .i64)]))])] [(.int .i64), (.int .i64), (.int .i64)]
noncomputable def C18 : Con := ⟨[(.struct [(.int .i64), (.slice (.struct [(.int .i64), (.int .i64)]))])], [(.int .i64), (.int .i64), (.int .i64)], F18⟩
noncomputable def cx18 : Ctx := cx84.add 18 C18
def S88 : List Gh.Spec := [{ key := (0, 88, 6, 1), frs := [{ fn := 88, n := 154, regs := [(0, (.dat (.hnd 0 (.struct [(.struct [(.int .i64), (.slice (.struct [(.int .i64), (.int .i64)]))]), (.int .i64)])))), (3, (.ptr 880003 [])), (4, (.ptr 880004 [])), (6, (.ptr 880006 [])), (35, (.dat (.slice (.struct [(.int .i64), (.int .i64)])))), (36, (.dat (.int .i64))), (37, (.dat (.int .i64)))], round := none, defers := [] }], heap := [(880003, .box (.dat (.struct [(.int .i64), (.int .i64)])) false), (880004, .box (.dat (.arr 12 (.struct [(.int .i64), (.int .i64)]))) false), (880006, .box (.arrL [(.agg [(.fn 136 [] [])]), (.agg [(.fn 137 [] [])]), (.agg [(.fn 135 [] [])]), (.agg [(.fn 135 [] [])])]) false)] }, { key := (0, 88, 16, 1), frs := [{ fn := 88, n := 154, regs := [(0, (.dat (.hnd 0 (.struct [(.struct [(.int .i64), (.slice (.struct [(.int .i64), (.int .i64)]))]), (.int .i64)])))), (3, (.ptr 880003 [])), (4, (.ptr 880004 [])), (9, (.dat (.int .i64))), (10, (.ptr 880010 []))], round := none, defers := [] }], heap := [(880003, .box (.dat (.struct [(.int .i64), (.int .i64)])) false), (880004, .box (.dat (.arr 12 (.struct [(.int .i64), (.int .i64)]))) false), (880010, .box (.dat (.arr 12 (.struct [(.int .i64), (.int .i64)]))) false)] }, { key := (0, 88, 19, 1), frs := [{ fn := 88, n := 154, regs := [(0, (.dat (.hnd 0 (.struct [(.struct [(.int .i64), (.slice (.struct [(.int .i64), (.int .i64)]))]), (.int .i64)])))), (3, (.ptr 880003 [])), (4, (.ptr 880004 [])), (9, (.dat (.int .i64))), (10, (.ptr 880010 [])), (94, (.dat (.int .i64))), (95, (.dat (.int .i64)))], round := none, defers := [] }], heap := [(880003, .box (.dat (.struct [(.int .i64), (.int .i64)])) false), (880004, .box (.dat (.arr 12 (.struct [(.int .i64), (.int .i64)]))) false), (880010, .box (.dat (.arr 12 (.struct [(.int .i64), (.int .i64)]))) false)] }]
noncomputable def K88_0 : Kept := { todos := [[.inLoop (cAt Tryd.f88 [1, 0, 1, 1, 1, 0, 1, 0, 0]), .inBlock 0, .code (cAt Tryd.f88 [1, 0, 1, 1, 1, 1]), .inScope (cAt Tryd.f88 [1, 0])]], cs := [noCodes, noCodes, noCodes] }
noncomputable def K88_1 : Kept := { todos := [[.inLoop (cAt Tryd.f88 [1, 0, 1, 1, 1, 1, 1, 1, 0, 1, 0, 0]), .inBlock 2, .code (cAt Tryd.f88 [1, 0, 1, 1, 1, 1, 1, 1, 1]), .inScope (cAt Tryd.f88 [1, 0])]], cs := [noCodes, noCodes, noCodes] }
noncomputable def K88_2 : Kept := { todos := [[.inLoop (cAt Tryd.f88 [1, 0, 1, 1, 1, 1, 1, 1, 0, 1, 0, 0, 1, 0, 0, 1, 1, 0, 0]), .inBlock 4, .inBlock 3, .code (cAt Tryd.f88 [1, 0, 1, 1, 1, 1, 1, 1, 0, 1, 0, 0, 1, 1]), .inLoop (cAt Tryd.f88 [1, 0, 1, 1, 1, 1, 1, 1, 0, 1, 0, 0]), .inBlock 2, .code (cAt Tryd.f88 [1, 0, 1, 1, 1, 1, 1, 1, 1]), .inScope (cAt Tryd.f88 [1, 0])]], cs := [noCodes, noCodes, noCodes] }
theorem E88 (G : (n : Nat) → Kept → denK (specAt S88 n) → Option (denL [(.arr 12 (.struct [(.int .i64), (.int .i64)])), .bool])) (t0 : (Option ((Int × (List (Int × Int × Unit)) × Unit) × Int × Unit))) (t1 : (Int × Int × Unit)) : enter cx18 S88 [(.arr 12 (.struct [(.int .i64), (.int .i64)])), .bool] 6000 some G 88 [(.hnd 0 (.struct [(.struct [(.int .i64), (.slice (.struct [(.int .i64), (.int .i64)]))]), (.int .i64)])), (.struct [(.int .i64), (.int .i64)])] (t0, (t1, ())) =
  Option.bind t0 fun (y : (Int × List (Int × Int × Unit) × Unit) × Int × Unit) =>
 Option.elim (Memo.f (Memo.mk 145 [Ty.struct [Ty.int IntKind.i64, Ty.slice (Ty.struct [Ty.int IntKind.i64, Ty.int IntKind.i64])], Ty.int IntKind.i64] 143 (Ty.struct [Ty.int IntKind.i64, Ty.int IntKind.i64]) (Ty.arr 12 (Ty.struct [Ty.int IntKind.i64, Ty.int IntKind.i64])) spansF) y t1)
  (Option.bind t0 fun (y : (Int × List (Int × Int × Unit) × Unit) × Int × Unit) => G 0 K88_0 (((t0, (), (), (), Prod.fst (Prod.snd (Prod.fst y)), (↑(List.length (Prod.fst (Prod.snd (Prod.fst y)))) : Int), 0, ()), ()), t1, List.replicate 12 (0, 0, ()), ((((), ()), ()), (((), ()), ()), (((), ()), ()), (((), ()), ()), ()), ())) fun (y : List (Int × Int × Unit)) =>
  dem (Option.bind t0 fun (y : (Int × List (Int × Int × Unit) × Unit) × Int × Unit) => G 0 K88_0 (((t0, (), (), (), Prod.fst (Prod.snd (Prod.fst y)), (↑(List.length (Prod.fst (Prod.snd (Prod.fst y)))) : Int), 0, ()), ()), t1, List.replicate 12 (0, 0, ()), ((((), ()), ()), (((), ()), ()), (((), ()), ()), (((), ()), ()), ()), ()))
   (some (y, decide (Prod.fst (List.getD y 0 (0, 0, ())) ≤ Prod.fst (Prod.snd (List.getD y 0 (0, 0, ())))), ())) := by kernel_rfl
theorem Q88_0 (G : (n : Nat) → Kept → denK (specAt S88 n) → Option (denL [(.arr 12 (.struct [(.int .i64), (.int .i64)])), .bool])) (t0 : (Option ((Int × (List (Int × Int × Unit)) × Unit) × Int × Unit))) (t35 : (List (Int × Int × Unit))) (t36 : Int) (t37 : Int) (h0 : (Int × Int × Unit)) (h1 : (List (Int × Int × Unit))) : seg cx18 S88 [(.arr 12 (.struct [(.int .i64), (.int .i64)])), .bool] 6000 some G 0 K88_0 (((t0, ((), ((), ((), (t35, (t36, (t37, ()))))))), ()), (h0, (h1, (((((), ()), ()), ((((), ()), ()), ((((), ()), ()), ((((), ()), ()), ())))), ())))) =
  bif decide (t37 < t36) then
 bif decide (0 ≤ t37) && decide (t37 < (↑(List.length t35) : Int)) then
  Option.bind t0 fun (y : (Int × List (Int × Int × Unit) × Unit) × Int × Unit) =>
   bif decide (t37 < 0) then none
   else
    bif bitF BinOp.and IntKind.i64 (Int.fdiv (Prod.fst (Prod.snd y)) (2 ^ min (Int.toNat t37) 64)) 1 == 1 then
     Option.bind (F136 (0, ())) fun (y : (Int × Int × Unit) × Unit) =>
      bif decide (0 ≤ t37) && decide (t37 < 12) then
       bif decide (Int.toNat t37 < 12) then
        bif t37 == Prod.fst h0 then
         bif decide (0 ≤ t37) && decide (t37 < 12) then
          bif decide (Int.toNat t37 < 12) then
           Option.bind (F125 (List.getD (List.set h1 (Int.toNat t37) (Prod.fst y)) (Int.toNat t37) (0, 0, ()), (Prod.fst (Prod.snd h0), Prod.fst (Prod.snd h0), ()), ())) fun (y_1 : (Int × Int × Unit) × Unit) =>
            bif decide (0 ≤ t37) && decide (t37 < 12) then bif decide (Int.toNat t37 < 12) then G 0 K88_0 (((t0, (), (), (), t35, t36, IntKind.wrap IntKind.i64 (t37 + 1), ()), ()), h0, List.set (List.set h1 (Int.toNat t37) (Prod.fst y)) (Int.toNat t37) (Prod.fst y_1), ((((), ()), ()), (((), ()), ()), (((), ()), ()), (((), ()), ()), ()), ()) else none else none
          else none
         else none
        else G 0 K88_0 (((t0, (), (), (), t35, t36, IntKind.wrap IntKind.i64 (t37 + 1), ()), ()), h0, List.set h1 (Int.toNat t37) (Prod.fst y), ((((), ()), ()), (((), ()), ()), (((), ()), ()), (((), ()), ()), ()), ())
       else none
      else none
    else
     bif decide (0 ≤ Prod.fst (List.getD t35 (Int.toNat t37) (0, 0, ()))) && decide (Prod.fst (List.getD t35 (Int.toNat t37) (0, 0, ())) < 4) then
      bif decide (Int.toNat (Prod.fst (List.getD t35 (Int.toNat t37) (0, 0, ()))) = 0) then
       Option.bind (F136 (Prod.fst (Prod.snd (List.getD t35 (Int.toNat t37) (0, 0, ()))), ())) fun (y : (Int × Int × Unit) × Unit) =>
        bif decide (0 ≤ t37) && decide (t37 < 12) then
         bif decide (Int.toNat t37 < 12) then
          bif t37 == Prod.fst h0 then
           bif decide (0 ≤ t37) && decide (t37 < 12) then
            bif decide (Int.toNat t37 < 12) then
             Option.bind (F125 (List.getD (List.set h1 (Int.toNat t37) (Prod.fst y)) (Int.toNat t37) (0, 0, ()), (Prod.fst (Prod.snd h0), Prod.fst (Prod.snd h0), ()), ())) fun (y_1 : (Int × Int × Unit) × Unit) =>
              bif decide (0 ≤ t37) && decide (t37 < 12) then bif decide (Int.toNat t37 < 12) then G 0 K88_0 (((t0, (), (), (), t35, t36, IntKind.wrap IntKind.i64 (t37 + 1), ()), ()), h0, List.set (List.set h1 (Int.toNat t37) (Prod.fst y)) (Int.toNat t37) (Prod.fst y_1), ((((), ()), ()), (((), ()), ()), (((), ()), ()), (((), ()), ()), ()), ()) else none else none
            else none
           else none
          else G 0 K88_0 (((t0, (), (), (), t35, t36, IntKind.wrap IntKind.i64 (t37 + 1), ()), ()), h0, List.set h1 (Int.toNat t37) (Prod.fst y), ((((), ()), ()), (((), ()), ()), (((), ()), ()), (((), ()), ()), ()), ())
         else none
        else none
      else
       bif decide (Int.toNat (Prod.fst (List.getD t35 (Int.toNat t37) (0, 0, ()))) = 1) then
        Option.bind (F137 (Prod.fst (Prod.snd (List.getD t35 (Int.toNat t37) (0, 0, ()))), ())) fun (y : (Int × Int × Unit) × Unit) =>
         bif decide (0 ≤ t37) && decide (t37 < 12) then
          bif decide (Int.toNat t37 < 12) then
           bif t37 == Prod.fst h0 then
            bif decide (0 ≤ t37) && decide (t37 < 12) then
             bif decide (Int.toNat t37 < 12) then
              Option.bind (F125 (List.getD (List.set h1 (Int.toNat t37) (Prod.fst y)) (Int.toNat t37) (0, 0, ()), (Prod.fst (Prod.snd h0), Prod.fst (Prod.snd h0), ()), ())) fun (y_1 : (Int × Int × Unit) × Unit) =>
               bif decide (0 ≤ t37) && decide (t37 < 12) then bif decide (Int.toNat t37 < 12) then G 0 K88_0 (((t0, (), (), (), t35, t36, IntKind.wrap IntKind.i64 (t37 + 1), ()), ()), h0, List.set (List.set h1 (Int.toNat t37) (Prod.fst y)) (Int.toNat t37) (Prod.fst y_1), ((((), ()), ()), (((), ()), ()), (((), ()), ()), (((), ()), ()), ()), ()) else none else none
             else none
            else none
           else G 0 K88_0 (((t0, (), (), (), t35, t36, IntKind.wrap IntKind.i64 (t37 + 1), ()), ()), h0, List.set h1 (Int.toNat t37) (Prod.fst y), ((((), ()), ()), (((), ()), ()), (((), ()), ()), (((), ()), ()), ()), ())
          else none
         else none
       else
        bif decide (Int.toNat (Prod.fst (List.getD t35 (Int.toNat t37) (0, 0, ()))) = 2) then
         Option.bind (F135 (Prod.fst (Prod.snd (List.getD t35 (Int.toNat t37) (0, 0, ()))), ())) fun (y : (Int × Int × Unit) × Unit) =>
          bif decide (0 ≤ t37) && decide (t37 < 12) then
           bif decide (Int.toNat t37 < 12) then
            bif t37 == Prod.fst h0 then
             bif decide (0 ≤ t37) && decide (t37 < 12) then
              bif decide (Int.toNat t37 < 12) then
               Option.bind (F125 (List.getD (List.set h1 (Int.toNat t37) (Prod.fst y)) (Int.toNat t37) (0, 0, ()), (Prod.fst (Prod.snd h0), Prod.fst (Prod.snd h0), ()), ())) fun (y_1 : (Int × Int × Unit) × Unit) =>
                bif decide (0 ≤ t37) && decide (t37 < 12) then bif decide (Int.toNat t37 < 12) then G 0 K88_0 (((t0, (), (), (), t35, t36, IntKind.wrap IntKind.i64 (t37 + 1), ()), ()), h0, List.set (List.set h1 (Int.toNat t37) (Prod.fst y)) (Int.toNat t37) (Prod.fst y_1), ((((), ()), ()), (((), ()), ()), (((), ()), ()), (((), ()), ()), ()), ()) else none else none
              else none
             else none
            else G 0 K88_0 (((t0, (), (), (), t35, t36, IntKind.wrap IntKind.i64 (t37 + 1), ()), ()), h0, List.set h1 (Int.toNat t37) (Prod.fst y), ((((), ()), ()), (((), ()), ()), (((), ()), ()), (((), ()), ()), ()), ())
           else none
          else none
        else
         bif decide (Int.toNat (Prod.fst (List.getD t35 (Int.toNat t37) (0, 0, ()))) = 3) then
          Option.bind (F135 (Prod.fst (Prod.snd (List.getD t35 (Int.toNat t37) (0, 0, ()))), ())) fun (y : (Int × Int × Unit) × Unit) =>
           bif decide (0 ≤ t37) && decide (t37 < 12) then
            bif decide (Int.toNat t37 < 12) then
             bif t37 == Prod.fst h0 then
              bif decide (0 ≤ t37) && decide (t37 < 12) then
               bif decide (Int.toNat t37 < 12) then
                Option.bind (F125 (List.getD (List.set h1 (Int.toNat t37) (Prod.fst y)) (Int.toNat t37) (0, 0, ()), (Prod.fst (Prod.snd h0), Prod.fst (Prod.snd h0), ()), ())) fun (y_1 : (Int × Int × Unit) × Unit) =>
                 bif decide (0 ≤ t37) && decide (t37 < 12) then bif decide (Int.toNat t37 < 12) then G 0 K88_0 (((t0, (), (), (), t35, t36, IntKind.wrap IntKind.i64 (t37 + 1), ()), ()), h0, List.set (List.set h1 (Int.toNat t37) (Prod.fst y)) (Int.toNat t37) (Prod.fst y_1), ((((), ()), ()), (((), ()), ()), (((), ()), ()), (((), ()), ()), ()), ()) else none else none
               else none
              else none
             else G 0 K88_0 (((t0, (), (), (), t35, t36, IntKind.wrap IntKind.i64 (t37 + 1), ()), ()), h0, List.set h1 (Int.toNat t37) (Prod.fst y), ((((), ()), ()), (((), ()), ()), (((), ()), ()), (((), ()), ()), ()), ())
            else none
           else none
         else none
     else none
 else none
 else Option.bind t0 fun (y : (Int × List (Int × Int × Unit) × Unit) × Int × Unit) => G 1 K88_1 (((t0, (), (), IntKind.wrap IntKind.i64 ((↑(List.length (Prod.fst (Prod.snd (Prod.fst y)))) : Int) - 1), (), ()), ()), h0, h1, List.replicate 12 (0, 0, ()), ()) := by kernel_rfl
theorem Q88_1 (G : (n : Nat) → Kept → denK (specAt S88 n) → Option (denL [(.arr 12 (.struct [(.int .i64), (.int .i64)])), .bool])) (t0 : (Option ((Int × (List (Int × Int × Unit)) × Unit) × Int × Unit))) (t9 : Int) (h0 : (Int × Int × Unit)) (h1 : (List (Int × Int × Unit))) (h2 : (List (Int × Int × Unit))) : seg cx18 S88 [(.arr 12 (.struct [(.int .i64), (.int .i64)])), .bool] 6000 some G 1 K88_1 (((t0, ((), ((), (t9, ((), ()))))), ()), (h0, (h1, (h2, ())))) =
  bif !eqD (Ty.arr 12 (Ty.struct [Ty.int IntKind.i64, Ty.int IntKind.i64])) h2 h1 then Option.bind t0 fun (y : (Int × List (Int × Int × Unit) × Unit) × Int × Unit) => G 2 K88_2 (((t0, (), (), t9, (), (↑(List.length (Prod.fst (Prod.snd (Prod.fst y)))) : Int), 0, ()), ()), h0, h1, h1, ())
 else
 Option.bind t0 fun (y : (Int × List (Int × Int × Unit) × Unit) × Int × Unit) =>
  guardP (Memo.f (Memo.mk 145 [Ty.struct [Ty.int IntKind.i64, Ty.slice (Ty.struct [Ty.int IntKind.i64, Ty.int IntKind.i64])], Ty.int IntKind.i64] 143 (Ty.struct [Ty.int IntKind.i64, Ty.int IntKind.i64]) (Ty.arr 12 (Ty.struct [Ty.int IntKind.i64, Ty.int IntKind.i64])) spansF) y h0 = some h1)
   (some (h1, decide (Prod.fst (List.getD h1 0 (0, 0, ())) ≤ Prod.fst (Prod.snd (List.getD h1 0 (0, 0, ())))), ())) := by kernel_rfl
theorem Q88_2 (G : (n : Nat) → Kept → denK (specAt S88 n) → Option (denL [(.arr 12 (.struct [(.int .i64), (.int .i64)])), .bool])) (t0 : (Option ((Int × (List (Int × Int × Unit)) × Unit) × Int × Unit))) (t9 : Int) (t94 : Int) (t95 : Int) (h0 : (Int × Int × Unit)) (h1 : (List (Int × Int × Unit))) (h2 : (List (Int × Int × Unit))) : seg cx18 S88 [(.arr 12 (.struct [(.int .i64), (.int .i64)])), .bool] 6000 some G 2 K88_2 (((t0, ((), ((), (t9, ((), (t94, (t95, ()))))))), ()), (h0, (h1, (h2, ())))) =
  bif decide (t95 < t94) then
 bif decide (t95 > 0) then
  bif decide (0 ≤ t95) && decide (t95 < 12) then
   bif decide (Int.toNat t95 < 12) then
    bif decide (0 ≤ IntKind.wrap IntKind.i64 (t95 - 1)) && decide (IntKind.wrap IntKind.i64 (t95 - 1) < 12) then
     bif decide (Int.toNat (IntKind.wrap IntKind.i64 (t95 - 1)) < 12) then
      Option.bind (F126 (t0, List.getD h1 (Int.toNat (IntKind.wrap IntKind.i64 (t95 - 1))) (0, 0, ()), ())) fun (y : (Int × Int × Unit) × Unit) =>
       Option.bind (F125 (List.getD h1 (Int.toNat t95) (0, 0, ()), Prod.fst y, ())) fun (y : (Int × Int × Unit) × Unit) =>
        bif decide (0 ≤ t95) && decide (t95 < 12) then
         bif decide (Int.toNat t95 < 12) then
          bif decide (t95 < t9) then
           bif decide (0 ≤ t95) && decide (t95 < 12) then
            bif decide (Int.toNat t95 < 12) then
             bif decide (0 ≤ IntKind.wrap IntKind.i64 (t95 + 1)) && decide (IntKind.wrap IntKind.i64 (t95 + 1) < 12) then
              bif decide (Int.toNat (IntKind.wrap IntKind.i64 (t95 + 1)) < 12) then
               Option.bind (F126 (t0, List.getD (List.set h1 (Int.toNat t95) (Prod.fst y)) (Int.toNat (IntKind.wrap IntKind.i64 (t95 + 1))) (0, 0, ()), ())) fun (y_1 : (Int × Int × Unit) × Unit) =>
                Option.bind (F125 (List.getD (List.set h1 (Int.toNat t95) (Prod.fst y)) (Int.toNat t95) (0, 0, ()), Prod.fst y_1, ())) fun (y_2 : (Int × Int × Unit) × Unit) =>
                 bif decide (0 ≤ t95) && decide (t95 < 12) then
                  bif decide (Int.toNat t95 < 12) then
                   bif decide (0 ≤ t95) && decide (t95 < 12) then
                    bif decide (Int.toNat t95 < 12) then
                     bif decide (0 ≤ t95) && decide (t95 < 12) then
                      bif decide (Int.toNat t95 < 12) then
                       bif decide (Prod.fst (List.getD (List.set (List.set h1 (Int.toNat t95) (Prod.fst y)) (Int.toNat t95) (Prod.fst y_2)) (Int.toNat t95) (0, 0, ())) > Prod.fst (Prod.snd (List.getD (List.set (List.set h1 (Int.toNat t95) (Prod.fst y)) (Int.toNat t95) (Prod.fst y_2)) (Int.toNat t95) (0, 0, ())))) then
                        Option.bind t0 fun (y_3 : (Int × List (Int × Int × Unit) × Unit) × Int × Unit) =>
                         guardP
                          (Memo.f (Memo.mk 145 [Ty.struct [Ty.int IntKind.i64, Ty.slice (Ty.struct [Ty.int IntKind.i64, Ty.int IntKind.i64])], Ty.int IntKind.i64] 143 (Ty.struct [Ty.int IntKind.i64, Ty.int IntKind.i64]) (Ty.arr 12 (Ty.struct [Ty.int IntKind.i64, Ty.int IntKind.i64])) spansF) y_3 h0 =
                            some (List.set (List.set (List.set h1 (Int.toNat t95) (Prod.fst y)) (Int.toNat t95) (Prod.fst y_2)) 0 (1, 0, ())))
                          (some
                            (List.set (List.set (List.set h1 (Int.toNat t95) (Prod.fst y)) (Int.toNat t95) (Prod.fst y_2)) 0 (1, 0, ()),
                              decide (Prod.fst (List.getD (List.set (List.set (List.set h1 (Int.toNat t95) (Prod.fst y)) (Int.toNat t95) (Prod.fst y_2)) 0 (1, 0, ())) 0 (0, 0, ())) ≤ Prod.fst (Prod.snd (List.getD (List.set (List.set (List.set h1 (Int.toNat t95) (Prod.fst y)) (Int.toNat t95) (Prod.fst y_2)) 0 (1, 0, ())) 0 (0, 0, ())))), ()))
                       else G 2 K88_2 (((t0, (), (), t9, (), t94, IntKind.wrap IntKind.i64 (t95 + 1), ()), ()), h0, List.set (List.set h1 (Int.toNat t95) (Prod.fst y)) (Int.toNat t95) (Prod.fst y_2), h2, ())
                      else none
                     else none
                    else none
                   else none
                  else none
                 else none
              else none
             else none
            else none
           else none
          else
           bif decide (0 ≤ t95) && decide (t95 < 12) then
            bif decide (Int.toNat t95 < 12) then
             bif decide (0 ≤ t95) && decide (t95 < 12) then
              bif decide (Int.toNat t95 < 12) then
               bif decide (Prod.fst (List.getD (List.set h1 (Int.toNat t95) (Prod.fst y)) (Int.toNat t95) (0, 0, ())) > Prod.fst (Prod.snd (List.getD (List.set h1 (Int.toNat t95) (Prod.fst y)) (Int.toNat t95) (0, 0, ())))) then
                Option.bind t0 fun (y_1 : (Int × List (Int × Int × Unit) × Unit) × Int × Unit) =>
                 guardP (Memo.f (Memo.mk 145 [Ty.struct [Ty.int IntKind.i64, Ty.slice (Ty.struct [Ty.int IntKind.i64, Ty.int IntKind.i64])], Ty.int IntKind.i64] 143 (Ty.struct [Ty.int IntKind.i64, Ty.int IntKind.i64]) (Ty.arr 12 (Ty.struct [Ty.int IntKind.i64, Ty.int IntKind.i64])) spansF) y_1 h0 = some (List.set (List.set h1 (Int.toNat t95) (Prod.fst y)) 0 (1, 0, ())))
                  (some (List.set (List.set h1 (Int.toNat t95) (Prod.fst y)) 0 (1, 0, ()), decide (Prod.fst (List.getD (List.set (List.set h1 (Int.toNat t95) (Prod.fst y)) 0 (1, 0, ())) 0 (0, 0, ())) ≤ Prod.fst (Prod.snd (List.getD (List.set (List.set h1 (Int.toNat t95) (Prod.fst y)) 0 (1, 0, ())) 0 (0, 0, ())))), ()))
               else G 2 K88_2 (((t0, (), (), t9, (), t94, IntKind.wrap IntKind.i64 (t95 + 1), ()), ()), h0, List.set h1 (Int.toNat t95) (Prod.fst y), h2, ())
              else none
             else none
            else none
           else none
         else none
        else none
     else none
    else none
   else none
  else none
 else
  bif decide (t95 < t9) then
   bif decide (0 ≤ t95) && decide (t95 < 12) then
    bif decide (Int.toNat t95 < 12) then
     bif decide (0 ≤ IntKind.wrap IntKind.i64 (t95 + 1)) && decide (IntKind.wrap IntKind.i64 (t95 + 1) < 12) then
      bif decide (Int.toNat (IntKind.wrap IntKind.i64 (t95 + 1)) < 12) then
       Option.bind (F126 (t0, List.getD h1 (Int.toNat (IntKind.wrap IntKind.i64 (t95 + 1))) (0, 0, ()), ())) fun (y : (Int × Int × Unit) × Unit) =>
        Option.bind (F125 (List.getD h1 (Int.toNat t95) (0, 0, ()), Prod.fst y, ())) fun (y : (Int × Int × Unit) × Unit) =>
         bif decide (0 ≤ t95) && decide (t95 < 12) then
          bif decide (Int.toNat t95 < 12) then
           bif decide (0 ≤ t95) && decide (t95 < 12) then
            bif decide (Int.toNat t95 < 12) then
             bif decide (0 ≤ t95) && decide (t95 < 12) then
              bif decide (Int.toNat t95 < 12) then
               bif decide (Prod.fst (List.getD (List.set h1 (Int.toNat t95) (Prod.fst y)) (Int.toNat t95) (0, 0, ())) > Prod.fst (Prod.snd (List.getD (List.set h1 (Int.toNat t95) (Prod.fst y)) (Int.toNat t95) (0, 0, ())))) then
                Option.bind t0 fun (y_1 : (Int × List (Int × Int × Unit) × Unit) × Int × Unit) =>
                 guardP (Memo.f (Memo.mk 145 [Ty.struct [Ty.int IntKind.i64, Ty.slice (Ty.struct [Ty.int IntKind.i64, Ty.int IntKind.i64])], Ty.int IntKind.i64] 143 (Ty.struct [Ty.int IntKind.i64, Ty.int IntKind.i64]) (Ty.arr 12 (Ty.struct [Ty.int IntKind.i64, Ty.int IntKind.i64])) spansF) y_1 h0 = some (List.set (List.set h1 (Int.toNat t95) (Prod.fst y)) 0 (1, 0, ())))
                  (some (List.set (List.set h1 (Int.toNat t95) (Prod.fst y)) 0 (1, 0, ()), decide (Prod.fst (List.getD (List.set (List.set h1 (Int.toNat t95) (Prod.fst y)) 0 (1, 0, ())) 0 (0, 0, ())) ≤ Prod.fst (Prod.snd (List.getD (List.set (List.set h1 (Int.toNat t95) (Prod.fst y)) 0 (1, 0, ())) 0 (0, 0, ())))), ()))
               else G 2 K88_2 (((t0, (), (), t9, (), t94, IntKind.wrap IntKind.i64 (t95 + 1), ()), ()), h0, List.set h1 (Int.toNat t95) (Prod.fst y), h2, ())
              else none
             else none
            else none
           else none
          else none
         else none
      else none
     else none
    else none
   else none
  else
   bif decide (0 ≤ t95) && decide (t95 < 12) then
    bif decide (Int.toNat t95 < 12) then
     bif decide (0 ≤ t95) && decide (t95 < 12) then
      bif decide (Int.toNat t95 < 12) then
       bif decide (Prod.fst (List.getD h1 (Int.toNat t95) (0, 0, ())) > Prod.fst (Prod.snd (List.getD h1 (Int.toNat t95) (0, 0, ())))) then
        Option.bind t0 fun (y : (Int × List (Int × Int × Unit) × Unit) × Int × Unit) =>
         guardP (Memo.f (Memo.mk 145 [Ty.struct [Ty.int IntKind.i64, Ty.slice (Ty.struct [Ty.int IntKind.i64, Ty.int IntKind.i64])], Ty.int IntKind.i64] 143 (Ty.struct [Ty.int IntKind.i64, Ty.int IntKind.i64]) (Ty.arr 12 (Ty.struct [Ty.int IntKind.i64, Ty.int IntKind.i64])) spansF) y h0 = some (List.set h1 0 (1, 0, ())))
          (some (List.set h1 0 (1, 0, ()), decide (Prod.fst (List.getD (List.set h1 0 (1, 0, ())) 0 (0, 0, ())) ≤ Prod.fst (Prod.snd (List.getD (List.set h1 0 (1, 0, ())) 0 (0, 0, ())))), ()))
       else G 2 K88_2 (((t0, (), (), t9, (), t94, IntKind.wrap IntKind.i64 (t95 + 1), ()), ()), h0, h1, h2, ())
      else none
     else none
    else none
   else none
 else G 1 K88_1 (((t0, (), (), t9, (), ()), ()), h0, h1, h2, ()) := by kernel_rfl
noncomputable def F88 : denL [(.hnd 0 (.struct [(.struct [(.int .i64), (.slice (.struct [(.int .i64), (.int .i64)]))]), (.int .i64)])), (.struct [(.int .i64), (.int .i64)])] → Option (denL [(.arr 12 (.struct [(.int .i64), (.int .i64)])), .bool]) := ghost cx18 S88 6000 88 [(.hnd 0 (.struct [(.struct [(.int .i64), (.slice (.struct [(.int .i64), (.int .i64)]))]), (.int .i64)])), (.struct [(.int .i64), (.int .i64)])] [(.arr 12 (.struct [(.int .i64), (.int .i64)])), .bool]
noncomputable def C88 : Con := ⟨[(.hnd 0 (.struct [(.struct [(.int .i64), (.slice (.struct [(.int .i64), (.int .i64)]))]), (.int .i64)])), (.struct [(.int .i64), (.int .i64)])], [(.arr 12 (.struct [(.int .i64), (.int .i64)])), .bool], F88⟩
noncomputable def cx88 : Ctx := cx18.add 88 C88
def S110 : List Gh.Spec := []
theorem E110 (G : (n : Nat) → Kept → denK (specAt S110 n) → Option (denL [.bool])) (t0 : (Option ((Int × (List (Int × Int × Unit)) × Unit) × Int × Unit))) : enter cx88 S110 [.bool] 6000 some G 110 [(.hnd 0 (.struct [(.struct [(.int .i64), (.slice (.struct [(.int .i64), (.int .i64)]))]), (.int .i64)]))] (t0, ()) =
  Option.bind (F88 (t0, (-1, 0, ()), ())) fun (y : List (Int × Int × Unit) × Bool × Unit) => some (Prod.fst (Prod.snd y), ()) := by kernel_rfl
noncomputable def F110 : denL [(.hnd 0 (.struct [(.struct [(.int .i64), (.slice (.struct [(.int .i64), (.int .i64)]))]), (.int .i64)]))] → Option (denL [.bool]) := ghost cx88 S110 6000 110 [(.hnd 0 (.struct [(.struct [(.int .i64), (.slice (.struct [(.int .i64), (.int .i64)]))]), (.int .i64)]))] [.bool]
noncomputable def C110 : Con := ⟨[(.hnd 0 (.struct [(.struct [(.int .i64), (.slice (.struct [(.int .i64), (.int .i64)]))]), (.int .i64)]))], [.bool], F110⟩
noncomputable def cx110 : Ctx := cx88.add 110 C110
def S87 : List Gh.Spec := []
theorem E87 (G : (n : Nat) → Kept → denK (specAt S87 n) → Option (denL [(.hnd 0 (.struct [(.struct [(.int .i64), (.slice (.struct [(.int .i64), (.int .i64)]))]), (.int .i64)])), (.int .i64)])) (t0 : (Int × (List (Int × Int × Unit)) × Unit)) (t1 : Int) (t2 : Int) : enter cx110 S87 [(.hnd 0 (.struct [(.struct [(.int .i64), (.slice (.struct [(.int .i64), (.int .i64)]))]), (.int .i64)])), (.int .i64)] 6000 some G 87 [(.struct [(.int .i64), (.slice (.struct [(.int .i64), (.int .i64)]))]), (.int .i64), (.int .i64)] (t0, (t1, (t2, ()))) =
  Option.bind (F18 (t0, ())) fun (y : Int × Int × Int × Unit) =>
 bif Prod.fst (Prod.snd (Prod.snd y)) != 0 then some (none, Prod.fst (Prod.snd (Prod.snd y)), ())
 else
  Option.bind (F84 (0, IntKind.wrap IntKind.i64 ((↑(List.length (Prod.fst (Prod.snd t0))) : Int) - 1), List.set (List.replicate 1 0) 0 t1, ())) fun (y : Bool × Unit) =>
   bif Prod.fst y then some (none, 4, ())
   else Option.bind (F84 (0, 100, List.set (List.replicate 1 0) 0 t2, ())) fun (y : Bool × Unit) => bif Prod.fst y then some (none, 7, ()) else Option.bind (F107 (t0, 0, ())) fun (y : Option ((Int × List (Int × Int × Unit) × Unit) × Int × Unit) × Unit) => Option.bind (F110 (Prod.fst y, ())) fun (y_1 : Bool × Unit) => bif !Prod.fst y_1 then some (none, 8, ()) else some (Prod.fst y, 0, ()) := by kernel_rfl
noncomputable def F87 : denL [(.struct [(.int .i64), (.slice (.struct [(.int .i64), (.int .i64)]))]), (.int .i64), (.int .i64)] → Option (denL [(.hnd 0 (.struct [(.struct [(.int .i64), (.slice (.struct [(.int .i64), (.int .i64)]))]), (.int .i64)])), (.int .i64)]) := ghost cx110 S87 6000 87 [(.struct [(.int .i64), (.slice (.struct [(.int .i64), (.int .i64)]))]), (.int .i64), (.int .i64)] [(.hnd 0 (.struct [(.struct [(.int .i64), (.slice (.struct [(.int .i64), (.int .i64)]))]), (.int .i64)])), (.int .i64)]
noncomputable def C87 : Con := ⟨[(.struct [(.int .i64), (.slice (.struct [(.int .i64), (.int .i64)]))]), (.int .i64), (.int .i64)], [(.hnd 0 (.struct [(.struct [(.int .i64), (.slice (.struct [(.int .i64), (.int .i64)]))]), (.int .i64)])), (.int .i64)], F87⟩
noncomputable def cx87 : Ctx := cx110.add 87 C87
def S20 : List Gh.Spec := []
theorem E20 (G : (n : Nat) → Kept → denK (specAt S20 n) → Option (denL [(.struct [(.int .i64), (.int .i64)]), (.int .i64)])) (t0 : (Int × (List (Int × Int × Unit)) × Unit)) (t1 : Int) : enter cx87 S20 [(.struct [(.int .i64), (.int .i64)]), (.int .i64)] 6000 some G 20 [(.struct [(.int .i64), (.slice (.struct [(.int .i64), (.int .i64)]))]), (.int .i64)] (t0, (t1, ())) =
  Option.bind (F87 (t0, t1, 0, ())) fun (y : Option ((Int × List (Int × Int × Unit) × Unit) × Int × Unit) × Int × Unit) =>
 bif Prod.fst (Prod.snd y) != 0 then some ((0, 0, ()), Prod.fst (Prod.snd y), ()) else Option.bind (F88 (Prod.fst y, (-1, 0, ()), ())) fun (y : List (Int × Int × Unit) × Bool × Unit) => bif decide (0 ≤ t1) && decide (t1 < 12) then bif decide (Int.toNat t1 < 12) then some (List.getD (Prod.fst y) (Int.toNat t1) (0, 0, ()), 0, ()) else none else none := by kernel_rfl
noncomputable def F20 : denL [(.struct [(.int .i64), (.slice (.struct [(.int .i64), (.int .i64)]))]), (.int .i64)] → Option (denL [(.struct [(.int .i64), (.int .i64)]), (.int .i64)]) := ghost cx87 S20 6000 20 [(.struct [(.int .i64), (.slice (.struct [(.int .i64), (.int .i64)]))]), (.int .i64)] [(.struct [(.int .i64), (.int .i64)]), (.int .i64)]
noncomputable def C20 : Con := ⟨[(.struct [(.int .i64), (.slice (.struct [(.int .i64), (.int .i64)]))]), (.int .i64)], [(.struct [(.int .i64), (.int .i64)]), (.int .i64)], F20⟩
noncomputable def cx20 : Ctx := cx87.add 20 C20
def S127 : List Gh.Spec := [{ key := (0, 127, 3, 1), frs := [{ fn := 127, n := 40, regs := [(4, (.ptr 1270004 [])), (21, (.dat (.slice (.struct [(.int .i64), (.int .i64)])))), (22, (.dat (.int .i64))), (23, (.dat (.int .i64)))], round := none, defers := [] }], heap := [(1270004, .box (.dat (.struct [(.int .i64), (.int .i64)])) false)] }]
noncomputable def K127_0 : Kept := { todos := [[.inLoop (cAt Tryd.f127 [1, 1, 0, 1, 0, 0]), .inBlock 0, .code (cAt Tryd.f127 [1, 1, 1])]], cs := [noCodes] }
theorem E127 (G : (n : Nat) → Kept → denK (specAt S127 n) → Option (denL [(.struct [(.int .i64), (.int .i64)])])) (t0 : (Option ((Int × (List (Int × Int × Unit)) × Unit) × Int × Unit))) (t1 : (Int × Int × Unit)) : enter cx20 S127 [(.struct [(.int .i64), (.int .i64)])] 6000 some G 127 [(.hnd 0 (.struct [(.struct [(.int .i64), (.slice (.struct [(.int .i64), (.int .i64)]))]), (.int .i64)])), (.struct [(.int .i64), (.int .i64)])] (t0, (t1, ())) =
  Option.bind (F88 (t0, t1, ())) fun (y : List (Int × Int × Unit) × Bool × Unit) =>
 Option.bind t0 fun (y_1 : (Int × List (Int × Int × Unit) × Unit) × Int × Unit) =>
  bif decide (0 ≤ (↑(List.length (Prod.fst (Prod.snd (Prod.fst y_1)))) : Int)) && decide ((↑(List.length (Prod.fst (Prod.snd (Prod.fst y_1)))) : Int) ≤ 12) then
   G 0 K127_0 ((((), List.take (Int.toNat (↑(List.length (Prod.fst (Prod.snd (Prod.fst y_1)))) : Int)) (Prod.fst y), (↑(List.length (List.take (Int.toNat (↑(List.length (Prod.fst (Prod.snd (Prod.fst y_1)))) : Int)) (Prod.fst y))) : Int), 0, ()), ()), (0, 0, ()), ())
  else none := by kernel_rfl
theorem Q127_0 (G : (n : Nat) → Kept → denK (specAt S127 n) → Option (denL [(.struct [(.int .i64), (.int .i64)])])) (t21 : (List (Int × Int × Unit))) (t22 : Int) (t23 : Int) (h0 : (Int × Int × Unit)) : seg cx20 S127 [(.struct [(.int .i64), (.int .i64)])] 6000 some G 0 K127_0 ((((), (t21, (t22, (t23, ())))), ()), (h0, ())) =
  bif decide (t23 < t22) then
 bif decide (0 ≤ t23) && decide (t23 < (↑(List.length t21) : Int)) then G 0 K127_0 ((((), t21, t22, IntKind.wrap IntKind.i64 (t23 + 1), ()), ()), (IntKind.wrap IntKind.i64 (Prod.fst h0 + Prod.fst (List.getD t21 (Int.toNat t23) (0, 0, ()))), IntKind.wrap IntKind.i64 (Prod.fst (Prod.snd h0) + Prod.fst (Prod.snd (List.getD t21 (Int.toNat t23) (0, 0, ())))), ()), ()) else none
 else some (h0, ()) := by kernel_rfl
noncomputable def F127 : denL [(.hnd 0 (.struct [(.struct [(.int .i64), (.slice (.struct [(.int .i64), (.int .i64)]))]), (.int .i64)])), (.struct [(.int .i64), (.int .i64)])] → Option (denL [(.struct [(.int .i64), (.int .i64)])]) := ghost cx20 S127 6000 127 [(.hnd 0 (.struct [(.struct [(.int .i64), (.slice (.struct [(.int .i64), (.int .i64)]))]), (.int .i64)])), (.struct [(.int .i64), (.int .i64)])] [(.struct [(.int .i64), (.int .i64)])]
noncomputable def C127 : Con := ⟨[(.hnd 0 (.struct [(.struct [(.int .i64), (.slice (.struct [(.int .i64), (.int .i64)]))]), (.int .i64)])), (.struct [(.int .i64), (.int .i64)])], [(.struct [(.int .i64), (.int .i64)])], F127⟩
noncomputable def cx127 : Ctx := cx20.add 127 C127
def S128 : List Gh.Spec := [{ key := (0, 128, 2, 1), frs := [{ fn := 128, n := 22, regs := [(0, (.dat (.int .i64))), (1, (.dat (.int .i64))), (4, (.ptr 1280004 [])), (5, (.dat (.int .i64))), (6, (.dat (.int .i64)))], round := none, defers := [] }], heap := [(1280004, .box (.dat (.struct [(.int .i64), (.int .i64)])) false)] }]
noncomputable def K128_0 : Kept := { todos := [[.inLoop (cAt Tryd.f128 [1, 1, 0, 0, 0]), .inBlock 0, .code (cAt Tryd.f128 [1, 1, 1])]], cs := [noCodes] }
theorem E128 (G : (n : Nat) → Kept → denK (specAt S128 n) → Option (denL [(.struct [(.int .i64), (.int .i64)])])) (t0 : Int) (t1 : Int) : enter cx127 S128 [(.struct [(.int .i64), (.int .i64)])] 6000 some G 128 [(.int .i64), (.int .i64)] (t0, (t1, ())) =
  G 0 K128_0 (((t0, t1, (), t0, t1, ()), ()), (0, 0, ()), ()) := by kernel_rfl
theorem Q128_0 (G : (n : Nat) → Kept → denK (specAt S128 n) → Option (denL [(.struct [(.int .i64), (.int .i64)])])) (t0 : Int) (t1 : Int) (t5 : Int) (t6 : Int) (h0 : (Int × Int × Unit)) : seg cx127 S128 [(.struct [(.int .i64), (.int .i64)])] 6000 some G 0 K128_0 (((t0, (t1, ((), (t5, (t6, ()))))), ()), (h0, ())) =
  bif t6 != 0 then bif decide (t6 = 0) then none else G 0 K128_0 (((t0, t1, (), t6, Int.tmod t5 t6, ()), ()), h0, ()) else bif decide (t5 = 0) then none else bif decide (t5 = 0) then none else some ((IntKind.wrap IntKind.i64 (Int.tdiv t0 t5), IntKind.wrap IntKind.i64 (Int.tdiv t1 t5), ()), ()) := by kernel_rfl
noncomputable def F128 : denL [(.int .i64), (.int .i64)] → Option (denL [(.struct [(.int .i64), (.int .i64)])]) := ghost cx127 S128 6000 128 [(.int .i64), (.int .i64)] [(.struct [(.int .i64), (.int .i64)])]
noncomputable def C128 : Con := ⟨[(.int .i64), (.int .i64)], [(.struct [(.int .i64), (.int .i64)])], F128⟩
noncomputable def cx128 : Ctx := cx127.add 128 C128
def S92 : List Gh.Spec := []
theorem E92 (G : (n : Nat) → Kept → denK (specAt S92 n) → Option (denL [(.struct [(.int .i64), (.int .i64)]), (.struct [(.int .i64), (.int .i64)])])) (t0 : (Option ((Int × (List (Int × Int × Unit)) × Unit) × Int × Unit))) (t1 : (Int × Int × Unit)) : enter cx128 S92 [(.struct [(.int .i64), (.int .i64)]), (.struct [(.int .i64), (.int .i64)])] 6000 some G 92 [(.hnd 0 (.struct [(.struct [(.int .i64), (.slice (.struct [(.int .i64), (.int .i64)]))]), (.int .i64)])), (.struct [(.int .i64), (.int .i64)])] (t0, (t1, ())) =
  Option.bind (F127 (t0, t1, ())) fun (y : (Int × Int × Unit) × Unit) =>
 Option.bind t0 fun (y_1 : (Int × List (Int × Int × Unit) × Unit) × Int × Unit) =>
  Option.bind (F128 (Prod.fst (Prod.fst y), (↑(List.length (Prod.fst (Prod.snd (Prod.fst y_1)))) : Int), ())) fun (y_2 : (Int × Int × Unit) × Unit) =>
   Option.bind t0 fun (y_3 : (Int × List (Int × Int × Unit) × Unit) × Int × Unit) => Option.bind (F128 (Prod.fst (Prod.snd (Prod.fst y)), (↑(List.length (Prod.fst (Prod.snd (Prod.fst y_3)))) : Int), ())) fun (y : (Int × Int × Unit) × Unit) => some (Prod.fst y_2, Prod.fst y, ()) := by kernel_rfl
noncomputable def F92 : denL [(.hnd 0 (.struct [(.struct [(.int .i64), (.slice (.struct [(.int .i64), (.int .i64)]))]), (.int .i64)])), (.struct [(.int .i64), (.int .i64)])] → Option (denL [(.struct [(.int .i64), (.int .i64)]), (.struct [(.int .i64), (.int .i64)])]) := ghost cx128 S92 6000 92 [(.hnd 0 (.struct [(.struct [(.int .i64), (.slice (.struct [(.int .i64), (.int .i64)]))]), (.int .i64)])), (.struct [(.int .i64), (.int .i64)])] [(.struct [(.int .i64), (.int .i64)]), (.struct [(.int .i64), (.int .i64)])]
noncomputable def C92 : Con := ⟨[(.hnd 0 (.struct [(.struct [(.int .i64), (.slice (.struct [(.int .i64), (.int .i64)]))]), (.int .i64)])), (.struct [(.int .i64), (.int .i64)])], [(.struct [(.int .i64), (.int .i64)]), (.struct [(.int .i64), (.int .i64)])], F92⟩
noncomputable def cx92 : Ctx := cx128.add 92 C92
def S23 : List Gh.Spec := []
theorem E23 (G : (n : Nat) → Kept → denK (specAt S23 n) → Option (denL [(.struct [(.int .i64), (.int .i64)]), (.struct [(.int .i64), (.int .i64)]), (.int .i64)])) (t0 : (Int × (List (Int × Int × Unit)) × Unit)) : enter cx92 S23 [(.struct [(.int .i64), (.int .i64)]), (.struct [(.int .i64), (.int .i64)]), (.int .i64)] 6000 some G 23 [(.struct [(.int .i64), (.slice (.struct [(.int .i64), (.int .i64)]))])] (t0, ()) =
  Option.bind (F87 (t0, 0, 0, ())) fun (y : Option ((Int × List (Int × Int × Unit) × Unit) × Int × Unit) × Int × Unit) => bif Prod.fst (Prod.snd y) != 0 then some ((0, 0, ()), (0, 0, ()), Prod.fst (Prod.snd y), ()) else Option.bind (F92 (Prod.fst y, (-1, 0, ()), ())) fun (y : (Int × Int × Unit) × (Int × Int × Unit) × Unit) => some (Prod.fst y, Prod.fst (Prod.snd y), 0, ()) := by kernel_rfl
noncomputable def F23 : denL [(.struct [(.int .i64), (.slice (.struct [(.int .i64), (.int .i64)]))])] → Option (denL [(.struct [(.int .i64), (.int .i64)]), (.struct [(.int .i64), (.int .i64)]), (.int .i64)]) := ghost cx92 S23 6000 23 [(.struct [(.int .i64), (.slice (.struct [(.int .i64), (.int .i64)]))])] [(.struct [(.int .i64), (.int .i64)]), (.struct [(.int .i64), (.int .i64)]), (.int .i64)]
noncomputable def C23 : Con := ⟨[(.struct [(.int .i64), (.slice (.struct [(.int .i64), (.int .i64)]))])], [(.struct [(.int .i64), (.int .i64)]), (.struct [(.int .i64), (.int .i64)]), (.int .i64)], F23⟩
noncomputable def cx23 : Ctx := cx92.add 23 C23
def S25 : List Gh.Spec := []
theorem E25 (G : (n : Nat) → Kept → denK (specAt S25 n) → Option (denL [(.struct [(.int .i64), (.int .i64)]), (.struct [(.int .i64), (.int .i64)]), (.int .i64)])) (t0 : (Int × (List (Int × Int × Unit)) × Unit)) (t1 : Int) (t2 : Int) : enter cx23 S25 [(.struct [(.int .i64), (.int .i64)]), (.struct [(.int .i64), (.int .i64)]), (.int .i64)] 6000 some G 25 [(.struct [(.int .i64), (.slice (.struct [(.int .i64), (.int .i64)]))]), (.int .i64), (.int .i64)] (t0, (t1, (t2, ()))) =
  Option.bind (F87 (t0, t1, t2, ())) fun (y : Option ((Int × List (Int × Int × Unit) × Unit) × Int × Unit) × Int × Unit) =>
 bif Prod.fst (Prod.snd y) != 0 then some ((0, 0, ()), (0, 0, ()), Prod.fst (Prod.snd y), ())
 else Option.bind (F88 (Prod.fst y, (t1, t2, ()), ())) fun (y_1 : List (Int × Int × Unit) × Bool × Unit) => bif !Prod.fst (Prod.snd y_1) then some ((0, 0, ()), (0, 0, ()), 9, ()) else Option.bind (F92 (Prod.fst y, (t1, t2, ()), ())) fun (y : (Int × Int × Unit) × (Int × Int × Unit) × Unit) => some (Prod.fst y, Prod.fst (Prod.snd y), 0, ()) := by kernel_rfl
noncomputable def F25 : denL [(.struct [(.int .i64), (.slice (.struct [(.int .i64), (.int .i64)]))]), (.int .i64), (.int .i64)] → Option (denL [(.struct [(.int .i64), (.int .i64)]), (.struct [(.int .i64), (.int .i64)]), (.int .i64)]) := ghost cx23 S25 6000 25 [(.struct [(.int .i64), (.slice (.struct [(.int .i64), (.int .i64)]))]), (.int .i64), (.int .i64)] [(.struct [(.int .i64), (.int .i64)]), (.struct [(.int .i64), (.int .i64)]), (.int .i64)]
noncomputable def C25 : Con := ⟨[(.struct [(.int .i64), (.slice (.struct [(.int .i64), (.int .i64)]))]), (.int .i64), (.int .i64)], [(.struct [(.int .i64), (.int .i64)]), (.struct [(.int .i64), (.int .i64)]), (.int .i64)], F25⟩
noncomputable def cx25 : Ctx := cx23.add 25 C25
end Go.Proofs.YtjigflnjgmgmnaaDoor
