/- What the ghost comes to: the reference. Conditions: none (equations, each by computation). -/
import Derived.Test.YtkhhbpocmmmnmaaTuD
namespace Go.Proofs.Ytkhhbpocmmmnmaa
open Go Go.Gh Go.Proofs
def S55 : List Gh.Spec := []
noncomputable def F55 : denL [(.int .i64), (.int .i64), (.int .i64)] → Option (denL [.bool]) := ghost cx35 S55 6000 55 [(.int .i64), (.int .i64), (.int .i64)] [.bool]
noncomputable def C55 : Con := ⟨[(.int .i64), (.int .i64), (.int .i64)], [.bool], F55⟩
noncomputable def cx55 : Ctx := cx35.add 55 C55
def S83 : List Gh.Spec := []
noncomputable def F83 : denL [tSp, (.int .i64), (.int .i64)] → Option (denL [(.int .i64)]) := ghost cx55 S83 6000 83 [tSp, (.int .i64), (.int .i64)] [(.int .i64)]
noncomputable def C83 : Con := ⟨[tSp, (.int .i64), (.int .i64)], [(.int .i64)], F83⟩
noncomputable def cx83 : Ctx := cx55.add 83 C83
def S20 : List Gh.Spec := [{ key := (0, 20, 4, 1), frs := [{ fn := 20, n := 132, regs := [(1, (.ptr 200001 [])), (5, (.dat (.int .i64)))], round := none, defers := [] }], heap := [(200001, .box (.dat tSu) false)] }, { key := (0, 20, 16, 1), frs := [{ fn := 20, n := 132, regs := [(1, (.ptr 200001 [])), (7, (.dat (.int .i64)))], round := none, defers := [] }], heap := [(200001, .box (.dat tSu) false)] }, { key := (0, 20, 26, 1), frs := [{ fn := 20, n := 132, regs := [(1, (.ptr 200001 [])), (9, (.dat (.int .i64)))], round := none, defers := [] }], heap := [(200001, .box (.dat tSu) false)] }]
noncomputable def K20_2 : Kept := { todos := [[.inLoop (cAt Try.f20 [1, 1, 1, 1, 1, 1, 1, 0, 1, 0, 0]), .inBlock 4, .code (cAt Try.f20 [1, 1, 1, 1, 1, 1, 1, 1])]], cs := [noCodes] }
noncomputable def F20 : denL [tSu] → Option (denL [(.int .i64), (.int .i64), (.int .i64)]) := ghost cx83 S20 6000 20 [tSu] [(.int .i64), (.int .i64), (.int .i64)]
noncomputable def C20 : Con := ⟨[tSu], [(.int .i64), (.int .i64), (.int .i64)], F20⟩
noncomputable def cx20 : Ctx := cx83.add 20 C20
def S43 : List Gh.Spec := [{ key := (0, 43, 3, 1), frs := [{ fn := 43, n := 20, regs := [(0, (.dat (.slice (.int .i64)))), (3, (.dat (.int .i64))), (4, (.dat (.int .i64)))], round := none, defers := [] }], heap := [] }]
noncomputable def F43 : denL [(.slice (.int .i64))] → Option (denL [(.int .i64)]) := ghost cx20 S43 6000 43 [(.slice (.int .i64))] [(.int .i64)]
noncomputable def C43 : Con := ⟨[(.slice (.int .i64))], [(.int .i64)], F43⟩
noncomputable def cx43 : Ctx := cx20.add 43 C43
def S44 : List Gh.Spec := []
noncomputable def F44 : denL [tSn, (.slice (.int .i64)), (.int .i64)] → Option (denL [(.int .i64)]) := ghost cx43 S44 6000 44 [tSn, (.slice (.int .i64)), (.int .i64)] [(.int .i64)]
noncomputable def C44 : Con := ⟨[tSn, (.slice (.int .i64)), (.int .i64)], [(.int .i64)], F44⟩
noncomputable def cx44 : Ctx := cx43.add 44 C44
def S109 : List Gh.Spec := [{ key := (0, 109, 1, 1), frs := [{ fn := 109, n := 12, regs := [(0, (.dat (.int .i64)))], round := none, defers := [] }], heap := [] }, { key := (0, 109, 3, 1), frs := [{ fn := 109, n := 12, regs := [(0, (.dat (.int .i64)))], round := none, defers := [] }], heap := [] }]
noncomputable def F109 : denL [(.int .i64)] → Option (denL [(.int .i64)]) := ghost cx44 S109 6000 109 [(.int .i64)] [(.int .i64)]
noncomputable def C109 : Con := ⟨[(.int .i64)], [(.int .i64)], F109⟩
noncomputable def cx109 : Ctx := cx44.add 109 C109
def S108 : List Gh.Spec := []
noncomputable def F108 : denL [(.int .i64), (.int .i64)] → Option (denL [.bool]) := ghost cx109 S108 6000 108 [(.int .i64), (.int .i64)] [.bool]
noncomputable def C108 : Con := ⟨[(.int .i64), (.int .i64)], [.bool], F108⟩
noncomputable def cx108 : Ctx := cx109.add 108 C108
def S129 : List Gh.Spec := []
noncomputable def F129 : denL [tSu, (.slice (.int .i64)), (.int .i64), (.int .i64)] → Option (denL [.bool]) := ghost cx108 S129 6000 129 [tSu, (.slice (.int .i64)), (.int .i64), (.int .i64)] [.bool]
noncomputable def C129 : Con := ⟨[tSu, (.slice (.int .i64)), (.int .i64), (.int .i64)], [.bool], F129⟩
noncomputable def cx129 : Ctx := cx108.add 129 C129
def S128 : List Gh.Spec := [{ key := (0, 128, 2, 1), frs := [{ fn := 128, n := 18, regs := [(0, (.dat (.slice (.int .i64)))), (1, (.dat (.int .i64))), (5, (.dat (.int .i64)))], round := none, defers := [] }], heap := [] }]
noncomputable def F128 : denL [(.slice (.int .i64)), (.int .i64)] → Option (denL [.bool]) := ghost cx129 S128 6000 128 [(.slice (.int .i64)), (.int .i64)] [.bool]
noncomputable def C128 : Con := ⟨[(.slice (.int .i64)), (.int .i64)], [.bool], F128⟩
noncomputable def cx128 : Ctx := cx129.add 128 C128
def S112 : List Gh.Spec := [{ key := (0, 112, 3, 1), frs := [{ fn := 112, n := 45, regs := [(1, (.dat (.slice (.int .i64)))), (2, (.dat (.slice (.int .i64)))), (3, (.ptr 1120003 [])), (7, (.dat .bool)), (8, (.dat (.int .i64)))], round := none, defers := [] }], heap := [(1120003, .box (.dat tSu) false)] }]
noncomputable def F112 : denL [tSu, (.slice (.int .i64)), (.slice (.int .i64))] → Option (denL [.bool]) := ghost cx128 S112 6000 112 [tSu, (.slice (.int .i64)), (.slice (.int .i64))] [.bool]
noncomputable def C112 : Con := ⟨[tSu, (.slice (.int .i64)), (.slice (.int .i64))], [.bool], F112⟩
noncomputable def cx112 : Ctx := cx128.add 112 C112
def S113 : List Gh.Spec := [{ key := (0, 113, 2, 1), frs := [{ fn := 113, n := 37, regs := [(1, (.dat (.slice (.int .i64)))), (2, (.dat (.slice (.int .i64)))), (3, (.ptr 1130003 [])), (7, (.dat (.int .i64)))], round := none, defers := [] }], heap := [(1130003, .box (.dat tSu) false)] }, { key := (0, 113, 5, 1), frs := [{ fn := 113, n := 37, regs := [(1, (.dat (.slice (.int .i64)))), (2, (.dat (.slice (.int .i64)))), (3, (.ptr 1130003 [])), (7, (.dat (.int .i64))), (8, (.dat (.int .i64)))], round := none, defers := [] }], heap := [(1130003, .box (.dat tSu) false)] }]
noncomputable def F113 : denL [tSu, (.slice (.int .i64)), (.slice (.int .i64))] → Option (denL [.bool]) := ghost cx112 S113 6000 113 [tSu, (.slice (.int .i64)), (.slice (.int .i64))] [.bool]
noncomputable def C113 : Con := ⟨[tSu, (.slice (.int .i64)), (.slice (.int .i64))], [.bool], F113⟩
noncomputable def cx113 : Ctx := cx112.add 113 C113
def S110 : List Gh.Spec := [{ key := (0, 110, 3, 1), frs := [{ fn := 110, n := 66, regs := [(1, (.ptr 1100001 [])), (3, (.dat (.slice (.slice (.int .i64))))), (4, (.dat (.int .i64)))], round := none, defers := [] }], heap := [(1100001, .box (.dat tSu) false)] }, { key := (0, 110, 7, 1), frs := [{ fn := 110, n := 66, regs := [(1, (.ptr 1100001 [])), (3, (.dat (.slice (.slice (.int .i64))))), (4, (.dat (.int .i64))), (5, (.row 1100063)), (6, (.dat (.int .i64)))], round := none, defers := [] }], heap := [(1100001, .box (.dat tSu) false), (1100063, .row (.slice (.int .i64)) false)] }, { key := (0, 110, 10, 1), frs := [{ fn := 110, n := 66, regs := [(1, (.ptr 1100001 [])), (3, (.dat (.slice (.slice (.int .i64))))), (4, (.dat (.int .i64))), (5, (.row 1100063)), (6, (.dat (.int .i64))), (7, (.dat (.int .i64)))], round := none, defers := [] }], heap := [(1100001, .box (.dat tSu) false), (1100063, .row (.slice (.int .i64)) false)] }]
noncomputable def F110 : denL [tSu] → Option (denL [(.slice (.slice (.int .i64)))]) := ghost cx113 S110 6000 110 [tSu] [(.slice (.slice (.int .i64)))]
noncomputable def C110 : Con := ⟨[tSu], [(.slice (.slice (.int .i64)))], F110⟩
noncomputable def cx110 : Ctx := cx113.add 110 C110
def S111 : List Gh.Spec := [{ key := (0, 111, 3, 1), frs := [{ fn := 111, n := 53, regs := [(0, (.dat (.int .i64))), (3, (.dat (.slice (.slice (.int .i64))))), (4, (.dat (.int .i64)))], round := none, defers := [] }], heap := [] }, { key := (0, 111, 7, 1), frs := [{ fn := 111, n := 53, regs := [(0, (.dat (.int .i64))), (3, (.dat (.slice (.slice (.int .i64))))), (4, (.dat (.int .i64))), (5, (.row 1110050)), (6, (.dat (.int .i64)))], round := none, defers := [] }], heap := [(1110050, .row (.slice (.int .i64)) false)] }, { key := (0, 111, 10, 1), frs := [{ fn := 111, n := 53, regs := [(0, (.dat (.int .i64))), (3, (.dat (.slice (.slice (.int .i64))))), (4, (.dat (.int .i64))), (5, (.row 1110050)), (6, (.dat (.int .i64))), (7, (.dat (.int .i64)))], round := none, defers := [] }], heap := [(1110050, .row (.slice (.int .i64)) false)] }]
noncomputable def F111 : denL [(.int .i64)] → Option (denL [(.slice (.slice (.int .i64)))]) := ghost cx110 S111 6000 111 [(.int .i64)] [(.slice (.slice (.int .i64)))]
noncomputable def C111 : Con := ⟨[(.int .i64)], [(.slice (.slice (.int .i64)))], F111⟩
noncomputable def cx111 : Ctx := cx110.add 111 C111
def S48 : List Gh.Spec := [{ key := (0, 48, 4, 1), frs := [{ fn := 48, n := 60, regs := [(1, (.dat (.slice (.int .i64)))), (2, (.ptr 480002 [])), (5, (.dat (.slice (.slice (.int .i64))))), (6, (.dat (.slice (.slice (.int .i64))))), (7, (.row 480058)), (8, (.dat (.int .i64)))], round := none, defers := [] }], heap := [(480002, .box (.dat tSu) false), (480058, .row (.struct [(.slice (.int .i64)), (.slice (.int .i64))]) false)] }, { key := (0, 48, 7, 1), frs := [{ fn := 48, n := 60, regs := [(1, (.dat (.slice (.int .i64)))), (2, (.ptr 480002 [])), (5, (.dat (.slice (.slice (.int .i64))))), (6, (.dat (.slice (.slice (.int .i64))))), (7, (.row 480058)), (8, (.dat (.int .i64))), (9, (.dat (.int .i64)))], round := none, defers := [] }], heap := [(480002, .box (.dat tSu) false), (480058, .row (.struct [(.slice (.int .i64)), (.slice (.int .i64))]) false)] }]
noncomputable def F48 : denL [tSu, (.slice (.int .i64))] → Option (denL [(.slice (.struct [(.slice (.int .i64)), (.slice (.int .i64))]))]) := ghost cx111 S48 6000 48 [tSu, (.slice (.int .i64))] [(.slice (.struct [(.slice (.int .i64)), (.slice (.int .i64))]))]
noncomputable def C48 : Con := ⟨[tSu, (.slice (.int .i64))], [(.slice (.struct [(.slice (.int .i64)), (.slice (.int .i64))]))], F48⟩
noncomputable def cx48 : Ctx := cx111.add 48 C48
def S88 : List Gh.Spec := []
noncomputable def F88 : denL [tSu, (.int .i64)] → Option (denL [(.slice (.struct [(.slice (.int .i64)), (.slice (.int .i64))])), (.int .i64)]) := ghost cx48 S88 6000 88 [tSu, (.int .i64)] [(.slice (.struct [(.slice (.int .i64)), (.slice (.int .i64))])), (.int .i64)]
noncomputable def C88 : Con := ⟨[tSu, (.int .i64)], [(.slice (.struct [(.slice (.int .i64)), (.slice (.int .i64))])), (.int .i64)], F88⟩
noncomputable def cx88 : Ctx := cx48.add 88 C88
def S89 : List Gh.Spec := []
noncomputable def F89 : denL [tSu, (.int .i64), (.int .i64)] → Option (denL [(.int .i64)]) := ghost cx88 S89 6000 89 [tSu, (.int .i64), (.int .i64)] [(.int .i64)]
noncomputable def C89 : Con := ⟨[tSu, (.int .i64), (.int .i64)], [(.int .i64)], F89⟩
noncomputable def cx89 : Ctx := cx88.add 89 C89
def S90 : List Gh.Spec := []
noncomputable def F90 : denL [tSp, (.int .i64)] → Option (denL [tSp]) := ghost cx89 S90 6000 90 [tSp, (.int .i64)] [tSp]
noncomputable def C90 : Con := ⟨[tSp, (.int .i64)], [tSp], F90⟩
noncomputable def cx90 : Ctx := cx89.add 90 C90
def S93 : List Gh.Spec := []
noncomputable def F93 : denL [(.int .i64), (.int .i64)] → Option (denL [(.int .i64)]) := ghost cx90 S93 6000 93 [(.int .i64), (.int .i64)] [(.int .i64)]
noncomputable def C93 : Con := ⟨[(.int .i64), (.int .i64)], [(.int .i64)], F93⟩
noncomputable def cx93 : Ctx := cx90.add 93 C93
def S102 : List Gh.Spec := []
noncomputable def F102 : denL [tSu, (.int .i64), (.int .i64)] → Option (denL [(.int .i64)]) := ghost cx93 S102 6000 102 [tSu, (.int .i64), (.int .i64)] [(.int .i64)]
noncomputable def C102 : Con := ⟨[tSu, (.int .i64), (.int .i64)], [(.int .i64)], F102⟩
noncomputable def cx102 : Ctx := cx93.add 102 C102
def S46 : List Gh.Spec := []
noncomputable def F46 : denL [(.int .i64)] → Option (denL [.bool]) := ghost cx102 S46 6000 46 [(.int .i64)] [.bool]
noncomputable def C46 : Con := ⟨[(.int .i64)], [.bool], F46⟩
noncomputable def cx46 : Ctx := cx102.add 46 C46
def S114 : List Gh.Spec := [{ key := (0, 114, 2, 1), frs := [{ fn := 114, n := 41, regs := [(0, (.dat (.slice (.int .i64)))), (1, (.dat (.slice (.int .i64)))), (5, (.dat (.int .i64)))], round := none, defers := [] }], heap := [] }]
noncomputable def F114 : denL [(.slice (.int .i64)), (.slice (.int .i64))] → Option (denL [.bool]) := ghost cx46 S114 6000 114 [(.slice (.int .i64)), (.slice (.int .i64))] [.bool]
noncomputable def C114 : Con := ⟨[(.slice (.int .i64)), (.slice (.int .i64))], [.bool], F114⟩
noncomputable def cx114 : Ctx := cx46.add 114 C114
def S49 : List Gh.Spec := []
noncomputable def F49 : denL [(.slice (.int .i64)), (.slice (.int .i64))] → Option (denL [.bool]) := ghost cx114 S49 6000 49 [(.slice (.int .i64)), (.slice (.int .i64))] [.bool]
noncomputable def C49 : Con := ⟨[(.slice (.int .i64)), (.slice (.int .i64))], [.bool], F49⟩
noncomputable def cx49 : Ctx := cx114.add 49 C49
def S107 : List Gh.Spec := [{ key := (0, 107, 3, 1), frs := [{ fn := 107, n := 54, regs := [(0, (.dat (.int .i64))), (1, (.dat (.int .i64))), (5, (.dat (.slice (.slice (.int .i64))))), (6, (.dat (.int .i64)))], round := none, defers := [] }], heap := [] }, { key := (0, 107, 7, 1), frs := [{ fn := 107, n := 54, regs := [(0, (.dat (.int .i64))), (1, (.dat (.int .i64))), (5, (.dat (.slice (.slice (.int .i64))))), (6, (.dat (.int .i64))), (7, (.row 1070051)), (8, (.dat (.int .i64)))], round := none, defers := [] }], heap := [(1070051, .row (.slice (.int .i64)) false)] }, { key := (0, 107, 13, 1), frs := [{ fn := 107, n := 54, regs := [(0, (.dat (.int .i64))), (1, (.dat (.int .i64))), (5, (.dat (.slice (.slice (.int .i64))))), (6, (.dat (.int .i64))), (7, (.row 1070051)), (8, (.dat (.int .i64))), (10, (.dat (.int .i64)))], round := none, defers := [] }], heap := [(1070051, .row (.slice (.int .i64)) false)] }]
noncomputable def F107 : denL [(.int .i64), (.int .i64)] → Option (denL [(.slice (.slice (.int .i64)))]) := ghost cx49 S107 6000 107 [(.int .i64), (.int .i64)] [(.slice (.slice (.int .i64)))]
noncomputable def C107 : Con := ⟨[(.int .i64), (.int .i64)], [(.slice (.slice (.int .i64)))], F107⟩
noncomputable def cx107 : Ctx := cx49.add 107 C107
def S30 : List Gh.Spec := [{ key := (0, 30, 3, 1), frs := [{ fn := 30, n := 31, regs := [(0, (.dat (.slice (.int .i64)))), (1, (.dat (.slice (.int .i64)))), (5, (.dat .bool)), (6, (.dat (.int .i64)))], round := none, defers := [] }], heap := [] }]
noncomputable def K30_0 : Kept := { todos := [[.inLoop (cAt Try.f30 [1, 1, 0, 1, 0, 0]), .inBlock 0, .code (cAt Try.f30 [1, 1, 1])]], cs := [] }
noncomputable def F30 : denL [(.slice (.int .i64)), (.slice (.int .i64))] → Option (denL [.bool]) := ghost cx107 S30 6000 30 [(.slice (.int .i64)), (.slice (.int .i64))] [.bool]
noncomputable def C30 : Con := ⟨[(.slice (.int .i64)), (.slice (.int .i64))], [.bool], F30⟩
noncomputable def cx30 : Ctx := cx107.add 30 C30
noncomputable abbrev T20_2 (t9 : Int) (h0 : Su) (f : Nat) : Option (denL [(.int .i64), (.int .i64), (.int .i64)]) := iter cx83 S20 [(.int .i64), (.int .i64), (.int .i64)] 6000 f 2 K20_2 ((((), (t9, ())), ()), (h0, ()))
noncomputable abbrev T30_0 (t0 : (List Int)) (t1 : (List Int)) (t5 : Bool) (t6 : Int) (f : Nat) : Option (denL [.bool]) := iter cx107 S30 [.bool] 6000 f 0 K30_0 (((t0, (t1, (t5, (t6, ())))), ()), ())
theorem N55 (t0 : Int) (t1 : Int) (t2 : Int) {y : denL [.bool]} (h : Ev fun _ =>
 (bif decide (t1 ≤ t0) then some (decide (t0 ≤ t2), ()) else some (false, ()) : Option (denL [.bool])) = some y) : F55 (t0, (t1, (t2, ()))) = some y := ghost_eq (Ev.eq (fun _ => by kernel_rfl) h)
theorem R20_2 (t9 : Int) (h0 : Su) {y : denL [(.int .i64), (.int .i64), (.int .i64)]} (h : Ev fun k =>
 (bif decide (t9 < (↑(List.length h0.2.2.2.1) : Int)) then bif decide (0 ≤ t9) && decide (t9 < (↑(List.length h0.2.2.2.1) : Int)) then Option.bind (F55 (Prod.fst (List.getD h0.2.2.2.1 (Int.toNat t9) (0, 0, false, ())), 0, IntKind.wrap IntKind.i64 ((↑(List.length h0.2.2.1) : Int) - 1), ())) fun (y : Bool × Unit) => bif !y.1 then some (4, t9, 4, ()) else Option.bind (F55 (Prod.fst (Prod.snd (List.getD h0.2.2.2.1 (Int.toNat t9) (0, 0, false, ()))), 0, IntKind.wrap IntKind.i64 ((↑(List.length h0.2.2.1) : Int) - 1), ())) fun (y : Bool × Unit) => bif !y.1 then some (4, t9, 4, ()) else bif Prod.fst (List.getD h0.2.2.2.1 (Int.toNat t9) (0, 0, false, ())) == Prod.fst (Prod.snd (List.getD h0.2.2.2.1 (Int.toNat t9) (0, 0, false, ()))) then some (4, t9, 2, ()) else T20_2 (IntKind.wrap IntKind.i64 (t9 + 1)) h0 k else none else some (0, 0, 0, ()) : Option (denL [(.int .i64), (.int .i64), (.int .i64)])) = some y) : Ev fun k => T20_2 t9 h0 k = some y := iter_ev (Ev.eq (fun _ => by kernel_rfl) h)
theorem R30_0 (t0 : (List Int)) (t1 : (List Int)) (t5 : Bool) (t6 : Int) {y : denL [.bool]} (h : Ev fun k =>
 (bif t5 then bif decide (t6 < (↑(List.length t0) : Int)) then bif decide (0 ≤ t6) && decide (t6 < (↑(List.length t0) : Int)) then bif decide (0 ≤ t6) && decide (t6 < (↑(List.length t1) : Int)) then T30_0 t0 t1 (List.getD t0 (Int.toNat t6) 0 == List.getD t1 (Int.toNat t6) 0) (IntKind.wrap IntKind.i64 (t6 + 1)) k else none else none else some (t5, ()) else some (t5, ()) : Option (denL [.bool])) = some y) : Ev fun k => T30_0 t0 t1 t5 t6 k = some y := iter_ev (Ev.eq (fun _ => by kernel_rfl) h)
theorem N30 (t0 : (List Int)) (t1 : (List Int)) {y : denL [.bool]} (h : Ev fun k =>
 (T30_0 t0 t1 ((↑(List.length t0) : Int) == (↑(List.length t1) : Int)) 0 k : Option (denL [.bool])) = some y) : F30 (t0, (t1, ())) = some y := ghost_eq (Ev.eq (fun _ => by kernel_rfl) h)
end Go.Proofs.Ytkhhbpocmmmnmaa
