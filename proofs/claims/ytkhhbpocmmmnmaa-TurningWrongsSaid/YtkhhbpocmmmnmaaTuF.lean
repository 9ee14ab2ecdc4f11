/- What the ghost comes to: the functions of the reference. Conditions: none (equations, each by computation). -/
import Derived.Test.YtkhhbpocmmmnmaaTuE
import Derived.Test.YtkhhbpocmmmnmaaTuRa
namespace Go.Proofs.Ytkhhbpocmmmnmaa
open Go Go.Gh Go.Proofs
def S22 : List Gh.Spec := [{ key := (0, 22, 6, 1), frs := [{ fn := 22, n := 57, regs := [(1, (.dat (.int .i64))), (4, (.ptr 220004 [])), (6, (.dat (.slice (.struct [(.slice (.int .i64)), (.slice (.int .i64))])))), (8, (.ptr 220008 [])), (9, (.dat (.int .i64)))], round := none, defers := [] }], heap := [(220004, .box (.dat tSp) false), (220008, .box (.dat tSp) false)] }]
noncomputable def K22_0 : Kept := { todos := [[.inLoop (cAt Try.f22 [1, 1, 1, 1, 0, 1, 0, 0]), .inBlock 0, .code (cAt Try.f22 [1, 1, 1, 1, 1])]], cs := [noCodes, noCodes] }
noncomputable def F22 : denL [tSu, (.int .i64)] → Option (denL [tSp, (.int .i64)]) := ghost cx30 S22 6000 22 [tSu, (.int .i64)] [tSp, (.int .i64)]
noncomputable def C22 : Con := ⟨[tSu, (.int .i64)], [tSp, (.int .i64)], F22⟩
noncomputable def cx22 : Ctx := cx30.add 22 C22
def S24 : List Gh.Spec := [{ key := (0, 24, 11, 1), frs := [{ fn := 24, n := 71, regs := [(1, (.dat (.int .i64))), (2, (.dat (.int .i64))), (9, (.dat (.slice (.struct [(.slice (.int .i64)), (.slice (.int .i64))])))), (10, (.dat (.int .i64))), (11, (.dat (.int .i64)))], round := none, defers := [] }], heap := [] }]
noncomputable def K24_0 : Kept := { todos := [[.inLoop (cAt Try.f24 [1, 1, 1, 1, 1, 1, 1, 0, 1, 0, 0]), .inBlock 0, .code (cAt Try.f24 [1, 1, 1, 1, 1, 1, 1, 1])]], cs := [] }
noncomputable def F24 : denL [tSu, (.int .i64), (.int .i64)] → Option (denL [(.int .i64), (.int .i64)]) := ghost cx22 S24 6000 24 [tSu, (.int .i64), (.int .i64)] [(.int .i64), (.int .i64)]
noncomputable def C24 : Con := ⟨[tSu, (.int .i64), (.int .i64)], [(.int .i64), (.int .i64)], F24⟩
noncomputable def cx24 : Ctx := cx22.add 24 C24
def S27 : List Gh.Spec := [{ key := (0, 27, 8, 1), frs := [{ fn := 27, n := 50, regs := [(2, (.ptr 270002 [])), (7, (.dat (.slice (.struct [(.slice (.int .i64)), (.slice (.int .i64))])))), (9, (.ptr 270009 [])), (10, (.dat (.int .i64)))], round := none, defers := [] }], heap := [(270002, .box (.dat tSp) false), (270009, .box (.dat tSp) false)] }]
noncomputable def K27_0 : Kept := { todos := [[.inLoop (cAt Try.f27 [1, 1, 1, 1, 1, 1, 0, 1, 0, 0]), .inBlock 0, .code (cAt Try.f27 [1, 1, 1, 1, 1, 1, 1])]], cs := [noCodes, noCodes] }
noncomputable def F27 : denL [tSu] → Option (denL [tSp, (.int .i64)]) := ghost cx24 S27 6000 27 [tSu] [tSp, (.int .i64)]
noncomputable def C27 : Con := ⟨[tSu], [tSp, (.int .i64)], F27⟩
noncomputable def cx27 : Ctx := cx24.add 27 C27
def S29 : List Gh.Spec := [{ key := (0, 29, 7, 1), frs := [{ fn := 29, n := 48, regs := [(7, (.dat (.slice (.struct [(.slice (.int .i64)), (.slice (.int .i64))])))), (8, (.dat (.slice (.int .i64)))), (9, (.dat (.int .i64)))], round := none, defers := [] }], heap := [] }]
noncomputable def K29_0 : Kept := { todos := [[.inLoop (cAt Try.f29 [1, 1, 1, 1, 1, 0, 1, 0, 0]), .inBlock 0, .code (cAt Try.f29 [1, 1, 1, 1, 1, 1])]], cs := [] }
noncomputable def F29 : denL [tSu] → Option (denL [(.slice (.int .i64)), (.int .i64)]) := ghost cx27 S29 6000 29 [tSu] [(.slice (.int .i64)), (.int .i64)]
noncomputable def C29 : Con := ⟨[tSu], [(.slice (.int .i64)), (.int .i64)], F29⟩
noncomputable def cx29 : Ctx := cx27.add 29 C29
def S32 : List Gh.Spec := [{ key := (0, 32, 7, 1), frs := [{ fn := 32, n := 61, regs := [(1, (.dat (.int .i64))), (2, (.dat (.int .i64))), (3, (.ptr 320003 [])), (6, (.ptr 320006 [])), (8, (.dat (.slice (.struct [(.slice (.int .i64)), (.slice (.int .i64))])))), (11, (.ptr 320011 [])), (12, (.dat (.int .i64)))], round := none, defers := [] }], heap := [(320003, .box (.dat tSu) false), (320006, .box (.dat tSp) false), (320011, .box (.dat tSp) false)] }]
noncomputable def K32_0 : Kept := { todos := [[.inLoop (cAt Try.f32 [1, 1, 1, 1, 1, 0, 1, 0, 0]), .inBlock 0, .code (cAt Try.f32 [1, 1, 1, 1, 1, 1])]], cs := [noCodes, noCodes, noCodes] }
noncomputable def F32 : denL [tSu, (.int .i64), (.int .i64)] → Option (denL [tSp, (.int .i64)]) := ghost cx29 S32 6000 32 [tSu, (.int .i64), (.int .i64)] [tSp, (.int .i64)]
noncomputable def C32 : Con := ⟨[tSu, (.int .i64), (.int .i64)], [tSp, (.int .i64)], F32⟩
noncomputable def cx32 : Ctx := cx29.add 32 C32
def S34 : List Gh.Spec := [{ key := (0, 34, 6, 1), frs := [{ fn := 34, n := 49, regs := [(1, (.dat (.int .i64))), (2, (.dat (.int .i64))), (3, (.ptr 340003 [])), (8, (.dat (.slice (.struct [(.slice (.int .i64)), (.slice (.int .i64))])))), (10, (.dat (.int .i64))), (11, (.dat (.int .i64)))], round := none, defers := [] }], heap := [(340003, .box (.dat tSu) false)] }]
noncomputable def K34_0 : Kept := { todos := [[.inLoop (cAt Try.f34 [1, 1, 1, 1, 0, 1, 0, 0]), .inBlock 0, .code (cAt Try.f34 [1, 1, 1, 1, 1])]], cs := [noCodes] }
noncomputable def F34 : denL [tSu, (.int .i64), (.int .i64)] → Option (denL [(.int .i64), (.int .i64)]) := ghost cx32 S34 6000 34 [tSu, (.int .i64), (.int .i64)] [(.int .i64), (.int .i64)]
noncomputable def C34 : Con := ⟨[tSu, (.int .i64), (.int .i64)], [(.int .i64), (.int .i64)], F34⟩
noncomputable def cx34 : Ctx := cx32.add 34 C34
def S36 : List Gh.Spec := [{ key := (0, 36, 5, 1), frs := [{ fn := 36, n := 49, regs := [(1, (.ptr 360001 [])), (7, (.dat (.int .i64)))], round := none, defers := [] }], heap := [(360001, .box (.dat tSu) false)] }, { key := (0, 36, 9, 1), frs := [{ fn := 36, n := 49, regs := [(1, (.ptr 360001 [])), (7, (.dat (.int .i64))), (8, (.dat (.slice (.slice (.int .i64))))), (9, (.dat (.int .i64)))], round := none, defers := [] }], heap := [(360001, .box (.dat tSu) false)] }]
noncomputable def K36_0 : Kept := { todos := [[.inLoop (cAt Try.f36 [1, 1, 1, 0, 1, 0, 0]), .inBlock 0, .code (cAt Try.f36 [1, 1, 1, 1])]], cs := [noCodes] }
noncomputable def K36_1 : Kept := { todos := [[.inLoop (cAt Try.f36 [1, 1, 1, 0, 1, 0, 0, 1, 0, 0, 1, 1, 0, 0]), .inBlock 2, .inBlock 1, .code (cAt Try.f36 [1, 1, 1, 0, 1, 0, 0, 1, 1]), .inLoop (cAt Try.f36 [1, 1, 1, 0, 1, 0, 0]), .inBlock 0, .code (cAt Try.f36 [1, 1, 1, 1])]], cs := [noCodes] }
noncomputable def F36 : denL [tSu] → Option (denL [(.slice (.int .i64)), (.int .i64)]) := ghost cx34 S36 6000 36 [tSu] [(.slice (.int .i64)), (.int .i64)]
noncomputable def C36 : Con := ⟨[tSu], [(.slice (.int .i64)), (.int .i64)], F36⟩
noncomputable def cx36 : Ctx := cx34.add 36 C36
noncomputable abbrev T22_0 (t1 : Int) (t6 : (List ((List Int) × (List Int) × Unit))) (t9 : Int) (h0 : Sp) (h1 : Sp) (f : Nat) : Option (denL [tSp, (.int .i64)]) := iter cx30 S22 [tSp, (.int .i64)] 6000 f 0 K22_0 (((t1, ((), (t6, ((), (t9, ()))))), ()), (h0, (h1, ())))
noncomputable abbrev T24_0 (t1 : Int) (t2 : Int) (t9 : (List ((List Int) × (List Int) × Unit))) (t10 : Int) (t11 : Int) (f : Nat) : Option (denL [(.int .i64), (.int .i64)]) := iter cx22 S24 [(.int .i64), (.int .i64)] 6000 f 0 K24_0 (((t1, (t2, (t9, (t10, (t11, ()))))), ()), ())
noncomputable abbrev T27_0 (t7 : (List ((List Int) × (List Int) × Unit))) (t10 : Int) (h0 : Sp) (h1 : Sp) (f : Nat) : Option (denL [tSp, (.int .i64)]) := iter cx24 S27 [tSp, (.int .i64)] 6000 f 0 K27_0 ((((), (t7, ((), (t10, ())))), ()), (h0, (h1, ())))
noncomputable abbrev T29_0 (t7 : (List ((List Int) × (List Int) × Unit))) (t8 : (List Int)) (t9 : Int) (f : Nat) : Option (denL [(.slice (.int .i64)), (.int .i64)]) := iter cx27 S29 [(.slice (.int .i64)), (.int .i64)] 6000 f 0 K29_0 (((t7, (t8, (t9, ()))), ()), ())
noncomputable abbrev T32_0 (t1 : Int) (t2 : Int) (t8 : (List ((List Int) × (List Int) × Unit))) (t12 : Int) (h0 : Su) (h1 : Sp) (h2 : Sp) (f : Nat) : Option (denL [tSp, (.int .i64)]) := iter cx29 S32 [tSp, (.int .i64)] 6000 f 0 K32_0 (((t1, (t2, ((), ((), (t8, ((), (t12, ()))))))), ()), (h0, (h1, (h2, ()))))
noncomputable abbrev T34_0 (t1 : Int) (t2 : Int) (t8 : (List ((List Int) × (List Int) × Unit))) (t10 : Int) (t11 : Int) (h0 : Su) (f : Nat) : Option (denL [(.int .i64), (.int .i64)]) := iter cx32 S34 [(.int .i64), (.int .i64)] 6000 f 0 K34_0 (((t1, (t2, ((), (t8, (t10, (t11, ())))))), ()), (h0, ()))
noncomputable abbrev T36_0 (t7 : Int) (h0 : Su) (f : Nat) : Option (denL [(.slice (.int .i64)), (.int .i64)]) := iter cx34 S36 [(.slice (.int .i64)), (.int .i64)] 6000 f 0 K36_0 ((((), (t7, ())), ()), (h0, ()))
noncomputable abbrev T36_1 (t7 : Int) (t8 : (List (List Int))) (t9 : Int) (h0 : Su) (f : Nat) : Option (denL [(.slice (.int .i64)), (.int .i64)]) := iter cx34 S36 [(.slice (.int .i64)), (.int .i64)] 6000 f 1 K36_1 ((((), (t7, (t8, (t9, ())))), ()), (h0, ()))
theorem R22_0 (t1 : Int) (t6 : (List ((List Int) × (List Int) × Unit))) (t9 : Int) (h0 : Sp) (h1 : Sp) {y : denL [tSp, (.int .i64)]} (h : Ev fun k =>
 (bif decide (t9 < (↑(List.length t6) : Int)) then bif decide (0 ≤ t9) && decide (t9 < (↑(List.length t6) : Int)) then bif decide (0 ≤ t1) && decide (t1 < (↑(List.length (Prod.fst (List.getD t6 (Int.toNat t9) ([], [], ())))) : Int)) then Option.bind (F90 (h1, List.getD (Prod.fst (List.getD t6 (Int.toNat t9) ([], [], ()))) (Int.toNat t1) 0, ())) fun (y : Sp × Unit) => T22_0 t1 t6 (IntKind.wrap IntKind.i64 (t9 + 1)) h0 y.1 k else none else none else some (h1, 0, ()) : Option (denL [tSp, (.int .i64)])) = some y) : Ev fun k => T22_0 t1 t6 t9 h0 h1 k = some y := iter_ev (Ev.eq (fun _ => by kernel_rfl) h)
theorem N22 (t0 : Su) (t1 : Int) {y : denL [tSp, (.int .i64)]} (h : Ev fun k =>
 (Option.bind (F89 (t0, t1, (↑(List.length t0.1) : Int), ())) fun (y : Int × Unit) => Option.bind (F88 (t0, y.1, ())) fun (y : List (List Int × List Int × Unit) × Int × Unit) => bif y.2.1 != 0 then some ((0, 0, ()), y.2.1, ()) else bif true && decide (0 < (↑(List.length y.1) : Int)) then bif decide (0 ≤ t1) && decide (t1 < (↑(List.length (Prod.fst (List.getD y.1 0 ([], [], ())))) : Int)) then bif true && decide (0 < (↑(List.length y.1) : Int)) then bif decide (0 ≤ t1) && decide (t1 < (↑(List.length (Prod.fst (List.getD y.1 0 ([], [], ())))) : Int)) then T22_0 t1 y.1 1 (0, 0, ()) (List.getD (Prod.fst (List.getD y.1 0 ([], [], ()))) (Int.toNat t1) 0, List.getD (Prod.fst (List.getD y.1 0 ([], [], ()))) (Int.toNat t1) 0, ()) k else none else none else none else none : Option (denL [tSp, (.int .i64)])) = some y) : F22 (t0, (t1, ())) = some y := ghost_eq (Ev.eq (fun _ => by kernel_rfl) h)
theorem R24_0 (t1 : Int) (t2 : Int) (t9 : (List ((List Int) × (List Int) × Unit))) (t10 : Int) (t11 : Int) {y : denL [(.int .i64), (.int .i64)]} (h : Ev fun k =>
 (bif decide (t11 < (↑(List.length t9) : Int)) then bif decide (0 ≤ t11) && decide (t11 < (↑(List.length t9) : Int)) then bif decide (0 ≤ t1) && decide (t1 < (↑(List.length (Prod.fst (Prod.snd (List.getD t9 (Int.toNat t11) ([], [], ()))))) : Int)) then bif decide (0 ≤ t11) && decide (t11 < (↑(List.length t9) : Int)) then bif decide (0 ≤ t2) && decide (t2 < (↑(List.length (Prod.fst (Prod.snd (List.getD t9 (Int.toNat t11) ([], [], ()))))) : Int)) then bif List.getD (Prod.fst (Prod.snd (List.getD t9 (Int.toNat t11) ([], [], ())))) (Int.toNat t1) 0 == List.getD (Prod.fst (Prod.snd (List.getD t9 (Int.toNat t11) ([], [], ())))) (Int.toNat t2) 0 then T24_0 t1 t2 t9 (IntKind.wrap IntKind.i64 (t10 + 1)) (IntKind.wrap IntKind.i64 (t11 + 1)) k else T24_0 t1 t2 t9 t10 (IntKind.wrap IntKind.i64 (t11 + 1)) k else none else none else none else none else Option.bind (F93 (t10, (↑(List.length t9) : Int), ())) fun (y : Int × Unit) => some (y.1, 0, ()) : Option (denL [(.int .i64), (.int .i64)])) = some y) : Ev fun k => T24_0 t1 t2 t9 t10 t11 k = some y := iter_ev (Ev.eq (fun _ => by kernel_rfl) h)
theorem N24 (t0 : Su) (t1 : Int) (t2 : Int) {y : denL [(.int .i64), (.int .i64)]} (h : Ev fun k =>
 (Option.bind (F89 (t0, t1, (↑(List.length t0.2.2.1) : Int), ())) fun (y : Int × Unit) => bif y.1 == 0 then Option.bind (F89 (t0, t2, (↑(List.length t0.2.2.1) : Int), ())) fun (y : Int × Unit) => bif y.1 == 0 then bif t1 == t2 then Option.bind (F88 (t0, 2, ())) fun (y : List (List Int × List Int × Unit) × Int × Unit) => bif y.2.1 != 0 then some (0, y.2.1, ()) else T24_0 t1 t2 y.1 0 0 k else Option.bind (F88 (t0, y.1, ())) fun (y : List (List Int × List Int × Unit) × Int × Unit) => bif y.2.1 != 0 then some (0, y.2.1, ()) else T24_0 t1 t2 y.1 0 0 k else Option.bind (F88 (t0, y.1, ())) fun (y : List (List Int × List Int × Unit) × Int × Unit) => bif y.2.1 != 0 then some (0, y.2.1, ()) else T24_0 t1 t2 y.1 0 0 k else bif y.1 == 0 then bif t1 == t2 then Option.bind (F88 (t0, 2, ())) fun (y : List (List Int × List Int × Unit) × Int × Unit) => bif y.2.1 != 0 then some (0, y.2.1, ()) else T24_0 t1 t2 y.1 0 0 k else Option.bind (F88 (t0, y.1, ())) fun (y : List (List Int × List Int × Unit) × Int × Unit) => bif y.2.1 != 0 then some (0, y.2.1, ()) else T24_0 t1 t2 y.1 0 0 k else Option.bind (F88 (t0, y.1, ())) fun (y : List (List Int × List Int × Unit) × Int × Unit) => bif y.2.1 != 0 then some (0, y.2.1, ()) else T24_0 t1 t2 y.1 0 0 k : Option (denL [(.int .i64), (.int .i64)])) = some y) : F24 (t0, (t1, (t2, ()))) = some y := ghost_eq (Ev.eq (fun _ => by kernel_rfl) h)
theorem R27_0 (t7 : (List ((List Int) × (List Int) × Unit))) (t10 : Int) (h0 : Sp) (h1 : Sp) {y : denL [tSp, (.int .i64)]} (h : Ev fun k =>
 (bif decide (t10 < (↑(List.length t7) : Int)) then bif decide (0 ≤ t10) && decide (t10 < (↑(List.length t7) : Int)) then Option.bind (F43 (Prod.fst (Prod.snd (List.getD t7 (Int.toNat t10) ([], [], ()))), ())) fun (y : Int × Unit) => Option.bind (F90 (h1, y.1, ())) fun (y : Sp × Unit) => T27_0 t7 (IntKind.wrap IntKind.i64 (t10 + 1)) h0 y.1 k else none else some (h1, 0, ()) : Option (denL [tSp, (.int .i64)])) = some y) : Ev fun k => T27_0 t7 t10 h0 h1 k = some y := iter_ev (Ev.eq (fun _ => by kernel_rfl) h)
theorem N27 (t0 : Su) {y : denL [tSp, (.int .i64)]} (h : Ev fun k =>
 (Option.bind (F20 (t0, ())) fun (y : Int × Int × Int × Unit) => Option.bind (F88 (t0, y.2.2.1, ())) fun (y : List (List Int × List Int × Unit) × Int × Unit) => bif y.2.1 != 0 then some ((0, 0, ()), y.2.1, ()) else bif true && decide (0 < (↑(List.length y.1) : Int)) then Option.bind (F43 (Prod.fst (Prod.snd (List.getD y.1 0 ([], [], ()))), ())) fun (y_1 : Int × Unit) => T27_0 y.1 1 (0, 0, ()) (y_1.1, y_1.1, ()) k else none : Option (denL [tSp, (.int .i64)])) = some y) : F27 (t0, ()) = some y := ghost_eq (Ev.eq (fun _ => by kernel_rfl) h)
theorem R29_0 (t7 : (List ((List Int) × (List Int) × Unit))) (t8 : (List Int)) (t9 : Int) {y : denL [(.slice (.int .i64)), (.int .i64)]} (h : Ev fun k =>
 (bif decide (t9 < (↑(List.length t7) : Int)) then bif decide (0 ≤ t9) && decide (t9 < (↑(List.length t7) : Int)) then Option.bind (F49 (Prod.fst (Prod.snd (List.getD t7 (Int.toNat t9) ([], [], ()))), t8, ())) fun (y : Bool × Unit) => bif y.1 then bif decide (0 ≤ t9) && decide (t9 < (↑(List.length t7) : Int)) then T29_0 t7 (Prod.fst (Prod.snd (List.getD t7 (Int.toNat t9) ([], [], ())))) (IntKind.wrap IntKind.i64 (t9 + 1)) k else none else T29_0 t7 t8 (IntKind.wrap IntKind.i64 (t9 + 1)) k else none else some (t8, 0, ()) : Option (denL [(.slice (.int .i64)), (.int .i64)])) = some y) : Ev fun k => T29_0 t7 t8 t9 k = some y := iter_ev (Ev.eq (fun _ => by kernel_rfl) h)
theorem N29 (t0 : Su) {y : denL [(.slice (.int .i64)), (.int .i64)]} (h : Ev fun k =>
 (Option.bind (F20 (t0, ())) fun (y : Int × Int × Int × Unit) => Option.bind (F88 (t0, y.2.2.1, ())) fun (y : List (List Int × List Int × Unit) × Int × Unit) => bif y.2.1 != 0 then some ([], y.2.1, ()) else bif true && decide (0 < (↑(List.length y.1) : Int)) then T29_0 y.1 (Prod.fst (Prod.snd (List.getD y.1 0 ([], [], ())))) 1 k else none : Option (denL [(.slice (.int .i64)), (.int .i64)])) = some y) : F29 (t0, ()) = some y := ghost_eq (Ev.eq (fun _ => by kernel_rfl) h)
theorem R32_0 (t1 : Int) (t2 : Int) (t8 : (List ((List Int) × (List Int) × Unit))) (t12 : Int) (h0 : Su) (h1 : Sp) (h2 : Sp) {y : denL [tSp, (.int .i64)]} (h : Ev fun k =>
 (bif decide (t12 < (↑(List.length t8) : Int)) then bif decide (0 ≤ t1) && decide (t1 < (↑(List.length h0.2.2.1) : Int)) then bif decide (0 ≤ t12) && decide (t12 < (↑(List.length t8) : Int)) then Option.bind (F44 (List.getD h0.2.2.1 (Int.toNat t1) (0, 0, 0, ()), Prod.fst (List.getD t8 (Int.toNat t12) ([], [], ())), t2, ())) fun (y : Int × Unit) => Option.bind (F90 (h2, y.1, ())) fun (y : Sp × Unit) => T32_0 t1 t2 t8 (IntKind.wrap IntKind.i64 (t12 + 1)) h0 h1 y.1 k else none else none else some (h2, 0, ()) : Option (denL [tSp, (.int .i64)])) = some y) : Ev fun k => T32_0 t1 t2 t8 t12 h0 h1 h2 k = some y := iter_ev (Ev.eq (fun _ => by kernel_rfl) h)
theorem N32 (t0 : Su) (t1 : Int) (t2 : Int) {y : denL [tSp, (.int .i64)]} (h : Ev fun k =>
 (Option.bind (F102 (t0, t1, t2, ())) fun (y : Int × Unit) => Option.bind (F88 (t0, y.1, ())) fun (y : List (List Int × List Int × Unit) × Int × Unit) => bif y.2.1 != 0 then some ((0, 0, ()), y.2.1, ()) else bif decide (0 ≤ t1) && decide (t1 < (↑(List.length t0.2.2.1) : Int)) then bif true && decide (0 < (↑(List.length y.1) : Int)) then Option.bind (F44 (List.getD t0.2.2.1 (Int.toNat t1) (0, 0, 0, ()), Prod.fst (List.getD y.1 0 ([], [], ())), t2, ())) fun (y_1 : Int × Unit) => T32_0 t1 t2 y.1 1 t0 (0, 0, ()) (y_1.1, y_1.1, ()) k else none else none : Option (denL [tSp, (.int .i64)])) = some y) : F32 (t0, (t1, (t2, ()))) = some y := ghost_eq (Ev.eq (fun _ => by kernel_rfl) h)
theorem R34_0 (t1 : Int) (t2 : Int) (t8 : (List ((List Int) × (List Int) × Unit))) (t10 : Int) (t11 : Int) (h0 : Su) {y : denL [(.int .i64), (.int .i64)]} (h : Ev fun k =>
 (bif decide (t11 < (↑(List.length t8) : Int)) then bif decide (0 ≤ t1) && decide (t1 < (↑(List.length h0.2.2.1) : Int)) then bif decide (0 ≤ t11) && decide (t11 < (↑(List.length t8) : Int)) then Option.bind (F44 (List.getD h0.2.2.1 (Int.toNat t1) (0, 0, 0, ()), Prod.fst (List.getD t8 (Int.toNat t11) ([], [], ())), t2, ())) fun (y : Int × Unit) => Option.bind (F46 (y.1, ())) fun (y : Bool × Unit) => bif y.1 then T34_0 t1 t2 t8 (IntKind.wrap IntKind.i64 (t10 + 1)) (IntKind.wrap IntKind.i64 (t11 + 1)) h0 k else T34_0 t1 t2 t8 t10 (IntKind.wrap IntKind.i64 (t11 + 1)) h0 k else none else none else Option.bind (F93 (t10, (↑(List.length t8) : Int), ())) fun (y : Int × Unit) => some (y.1, 0, ()) : Option (denL [(.int .i64), (.int .i64)])) = some y) : Ev fun k => T34_0 t1 t2 t8 t10 t11 h0 k = some y := iter_ev (Ev.eq (fun _ => by kernel_rfl) h)
theorem N34 (t0 : Su) (t1 : Int) (t2 : Int) {y : denL [(.int .i64), (.int .i64)]} (h : Ev fun k =>
 (Option.bind (F102 (t0, t1, t2, ())) fun (y : Int × Unit) => Option.bind (F88 (t0, y.1, ())) fun (y : List (List Int × List Int × Unit) × Int × Unit) => bif y.2.1 != 0 then some (0, y.2.1, ()) else T34_0 t1 t2 y.1 0 0 t0 k : Option (denL [(.int .i64), (.int .i64)])) = some y) : F34 (t0, (t1, (t2, ()))) = some y := ghost_eq (Ev.eq (fun _ => by kernel_rfl) h)
theorem R36_0 (t7 : Int) (h0 : Su) {y : denL [(.slice (.int .i64)), (.int .i64)]} (h : Ev fun k =>
 (bif decide (t7 ≤ (↑(List.length h0.2.2.2.1) : Int)) then Option.bind (F107 ((↑(List.length h0.2.2.2.1) : Int), t7, ())) fun (y : List (List Int) × Unit) => T36_1 t7 y.1 0 h0 k else some ([], 8, ()) : Option (denL [(.slice (.int .i64)), (.int .i64)])) = some y) : Ev fun k => T36_0 t7 h0 k = some y := iter_ev (Ev.eq (fun _ => by kernel_rfl) h)
theorem R36_1 (t7 : Int) (t8 : (List (List Int))) (t9 : Int) (h0 : Su) {y : denL [(.slice (.int .i64)), (.int .i64)]} (h : Ev fun k =>
 (bif decide (t9 < (↑(List.length t8) : Int)) then bif decide (0 ≤ t9) && decide (t9 < (↑(List.length t8) : Int)) then Option.bind (F48 (h0, List.getD t8 (Int.toNat t9) [], ())) fun (y : List (List Int × List Int × Unit) × Unit) => bif decide ((↑(List.length y.1) : Int) > 0) then bif decide (0 ≤ t9) && decide (t9 < (↑(List.length t8) : Int)) then some (List.getD t8 (Int.toNat t9) [], 0, ()) else none else T36_1 t7 t8 (IntKind.wrap IntKind.i64 (t9 + 1)) h0 k else none else T36_0 (IntKind.wrap IntKind.i64 (t7 + 1)) h0 k : Option (denL [(.slice (.int .i64)), (.int .i64)])) = some y) : Ev fun k => T36_1 t7 t8 t9 h0 k = some y := iter_ev (Ev.eq (fun _ => by kernel_rfl) h)
theorem N36 (t0 : Su) {y : denL [(.slice (.int .i64)), (.int .i64)]} (h : Ev fun k =>
 (Option.bind (F20 (t0, ())) fun (y : Int × Int × Int × Unit) => bif y.2.2.1 != 0 then some ([], y.2.2.1, ()) else T36_0 0 t0 k : Option (denL [(.slice (.int .i64)), (.int .i64)])) = some y) : F36 (t0, ()) = some y := ghost_eq (Ev.eq (fun _ => by kernel_rfl) h)
end Go.Proofs.Ytkhhbpocmmmnmaa
/- The reference's answers are the program's. Conditions: as each lemma states. -/
namespace Go.Proofs.Ytkhhbpocmmmnmaa
open Go Go.Gh Go.Proofs
open Go.Few
theorem inL_nil : inL [] = Nat.testBit 0 := by
 funext i
 unfold inL
 rw [Nat.zero_testBit]
 simp
def refL (s : Su) : List Tr := refT s (inL [])
theorem refT_pad {s : Su} (hs : VS s) (but : Nat → Bool) : (refT s but).map (fun t => (pad 3 t.1, pad 5 t.2.1)) = truthsP s but := by
 rw [← truths_ref hs, refT_eq, List.map_map]
 rfl
theorem refL_tr {s : Su} (hs : VS s) : (refL s).map (fun t => (pad 3 t.1, pad 5 t.2.1)) = trP s := by
 unfold refL trP
 rw [refT_pad hs, inL_nil]
theorem refL_nil {s : Su} (hs : VS s) : refL s = [] ↔ trP s = [] := by
 rw [← refL_tr hs]
 simp
structure TrOK (s : Su) (t : Tr) : Prop where
 rl : t.1.length = s.1.length
 rb : RB t.1
 gl : t.2.1.length = s.2.2.1.length
theorem refT_ok {s : Su} (hs : VS s) {but : Nat → Bool} {t : Tr} (h : t ∈ refT s but) : TrOK s t := by
 unfold refT at h
 rw [List.mem_flatMap] at h
 obtain ⟨r, hr, h⟩ := h
 unfold truNext at h
 rw [List.mem_map] at h
 obtain ⟨g, hg, rfl⟩ := h
 exact ⟨rLev_len s _ r hr, rLev_rb hs _ (Nat.le_refl _) r hr, gLev_len _ g (List.mem_filter.1 hg).1⟩
theorem refL_ok {s : Su} (hs : VS s) {i : Nat} (hi : i < (refL s).length) : TrOK s (refL s)[i] := refT_ok hs (List.getElem_mem hi)
theorem map_tr {s : Su} (hs : VS s) {α : Type} (f : List Int × List Int → α) (g : Tr → α) (h : ∀ t, f (pad 3 t.1, pad 5 t.2.1) = g t) : (trP s).map f = (refL s).map g := by
 rw [← refL_tr hs, List.map_map]
 exact List.map_congr_left fun t _ => h t
theorem count_tr {s : Su} (hs : VS s) (f : List Int × List Int → Bool) (g : Tr → Bool) (h : ∀ t, f (pad 3 t.1, pad 5 t.2.1) = g t) : (trP s).countP f = (refL s).countP g := by
 rw [← refL_tr hs, List.countP_map]
 congr 1
 funext t
 exact h t
theorem len_tr {s : Su} (hs : VS s) : (trP s).length = (refL s).length := by
 rw [← refL_tr hs, List.length_map]
theorem refL_cap {s : Su} (hs : VS s) : (refL s).length ≤ 38203488 := refT_cap hs _
theorem L88_e (s : Su) {e : Int} (he : e ≠ 0) : F88 ((s, e, ()) : Su × Int × Unit) = some ([], e, ()) := by
 refine N88 _ _ ?_
 rw [nbqf he]
 exact Ev.all fun _ => by first | rfl | trivial
theorem L88_0 {s : Su} (hs : VS s) : F88 ((s, 0, ()) : Su × Int × Unit) = some (if refL s = [] then ([], 8, ()) else (refL s, 0, ())) := by
 refine N88 _ _ ?_
 rw [L48 hs [] (by simp)]
 simp only [bne_self_eq_false, cond_false, Option.bind_some]
 by_cases h : refL s = []
 ·rw [if_pos h, show refT s (inL []) = [] from h]
  exact Ev.all fun _ => by first | rfl | trivial
 ·rw [if_neg h]
  have := List.length_pos_iff.2 h
  rw [show ((((refT s (inL [])).length : Nat) : Int) == 0) = false from bqf (by show ((refL s).length : Int) ≠ 0; omega)]
  exact Ev.all fun _ => by first | rfl | trivial
def indexP (s : Su) (n : Int) (b : Nat) : Int := if (chkP s).2.2.1 = 0 then (if outP b n = true then 4 else 0) else (chkP s).2.2.1
theorem L89 (s : Su) (n : Int) (b : Nat) (hb : (chkP s).2.2.1 = 0 → b < 1000000) : F89 ((s, n, (b : Int), ()) : Su × Int × Int × Unit) = some (indexP s n b, ()) := by
 refine N89 _ _ _ ?_
 rw [L20]
 simp only [Option.bind_some]
 unfold indexP
 by_cases hc : (chkP s).2.2.1 = 0
 ·rw [bq hc, if_pos hc, wrap_below (n := b) (by have := hb hc; omega), L55, ← outP_eq]
  simp only [cond_true, Option.bind_some, Bool.not_not]
  cases outP b n with
  | true => exact Ev.all fun _ => by first | rfl | trivial
  | false => rw [hc]; exact Ev.all fun _ => by first | rfl | trivial
 ·rw [bqf hc, if_neg hc]
  exact Ev.all fun _ => by first | rfl | trivial
def datedP (s : Su) (n day : Int) : Int := if indexP s n s.2.2.1.length = 0 then (if outP 31 day = true then 7 else 0) else indexP s n s.2.2.1.length
theorem L102 (s : Su) (n day : Int) : F102 ((s, n, day, ()) : Su × Int × Int × Unit) = some (datedP s n day, ()) := by
 refine N102 _ _ _ ?_
 rw [L89 s n s.2.2.1.length (fun h => by have := ((chkP_ok s).1 h).n5; omega)]
 simp only [Option.bind_some]
 unfold datedP
 by_cases hc : indexP s n s.2.2.1.length = 0
 ·rw [bq hc, if_pos hc, L55, show notIn 0 30 day = outP 31 day from rfl]
  simp only [cond_true, Option.bind_some, Bool.not_not]
  cases outP 31 day with
  | true => exact Ev.all fun _ => by first | rfl | trivial
  | false => rw [hc]; exact Ev.all fun _ => by first | rfl | trivial
 ·rw [bqf hc, if_neg hc]
  exact Ev.all fun _ => by first | rfl | trivial
theorem find_one (x : Ak) : ([x].find? fun x => !x.1) = if x.1 = true then none else some x := by
 cases h : x.1 <;> simp [List.find?, h]
theorem errP_index (s : Su) (n : Int) (b : Nat) : errP s [askB b [n]] = if indexP s n b = 0 then (if trP s = [] then 8 else 0) else indexP s n b := by
 unfold errP indexP
 by_cases hc : (chkP s).2.2.1 = 0
 ·rw [if_pos hc, if_pos hc, find_one]
  have e : (askB b [n]).1 = !outP b n := by simp [askB]
  rw [e]
  cases outP b n with
  | true => simp [askB]
  | false => simp
 ·rw [if_neg hc, if_neg hc, if_neg hc]
theorem errP_dated (s : Su) (n day : Int) : errP s (askD s n day) = if datedP s n day = 0 then (if trP s = [] then 8 else 0) else datedP s n day := by
 unfold errP datedP indexP askD
 by_cases hc : (chkP s).2.2.1 = 0
 ·rw [if_pos hc, if_pos hc]
  have e : (askB s.2.2.1.length [n]).1 = !outP s.2.2.1.length n := by simp [askB]
  rw [List.find?_cons, e]
  cases outP s.2.2.1.length n with
  | true => simp [askB]
  | false =>
   rw [find_one]
   cases outP 31 day <;> simp
 ·rw [if_neg hc, if_neg hc, if_neg hc, if_neg hc]
theorem errP_none (s : Su) : errP s [] = if (chkP s).2.2.1 = 0 then (if trP s = [] then 8 else 0) else (chkP s).2.2.1 := rfl
theorem index_ok {s : Su} {n : Int} {b : Nat} (h : indexP s n b = 0) : VS s ∧ 0 ≤ n ∧ n < b := by
 unfold indexP at h
 by_cases hc : (chkP s).2.2.1 = 0
 ·rw [if_pos hc] at h
  refine ⟨(chkP_ok s).1 hc, ?_⟩
  cases h2 : outP b n with
  | true => rw [h2, if_pos rfl] at h; exact absurd h (by decide)
  | false => exact outP_f.1 h2
 ·rw [if_neg hc] at h
  exact absurd h hc
theorem dated_ok {s : Su} {n day : Int} (h : datedP s n day = 0) : VS s ∧ (0 ≤ n ∧ n < s.2.2.1.length) ∧ 0 ≤ day ∧ day ≤ 30 := by
 unfold datedP at h
 by_cases hc : indexP s n s.2.2.1.length = 0
 ·rw [if_pos hc] at h
  obtain ⟨hs, h1, h2⟩ := index_ok hc
  refine ⟨hs, ⟨h1, h2⟩, ?_⟩
  cases h3 : outP 31 day with
  | true => rw [h3, if_pos rfl] at h; exact absurd h (by decide)
  | false => have := outP_f.1 h3; omega
 ·rw [if_neg hc] at h
  exact absurd h hc
theorem L90 (x : Sp) (n : Int) : F90 ((x, n, ()) : Sp × Int × Unit) = some (wide x n, ()) := by
 refine N90 _ _ ?_
 exact Ev.all fun _ => by first | rfl | trivial
theorem L93 (a b : Nat) : F93 (((a : Int), (b : Int), ()) : Int × Int × Unit) = some (settledP a b, ()) := by
 refine N93 _ _ ?_
 unfold settledP
 by_cases h1 : a = b
 ·rw [if_pos h1, bq (show (a : Int) = (b : Int) by omega)]; exact Ev.all fun _ => by first | rfl | trivial
 ·rw [if_neg h1, bqf (show (a : Int) ≠ (b : Int) by omega)]
  by_cases h2 : a = 0
  ·rw [if_pos h2, bq (show (a : Int) = 0 by omega)]; exact Ev.all fun _ => by first | rfl | trivial
  ·rw [if_neg h2, bqf (show (a : Int) ≠ 0 by omega)]; exact Ev.all fun _ => by first | rfl | trivial
abbrev tr0 : Tr := ([], [], ())
theorem hull_from {l : List Tr} (h : 0 < l.length) (f : Tr → Int) : hullL (l.map f) = ((l.drop 1).map f).foldl wide (f (l.getD 0 tr0), f (l.getD 0 tr0), ()) := by
 cases l with
 | nil => exact absurd h (by simp)
 | cons x l => rfl
theorem drop_map {l : List Tr} {i : Nat} (hi : i < l.length) (f : Tr → Int) : (l.drop i).map f = f l[i] :: (l.drop (i + 1)).map f := by
 rw [List.drop_eq_getElem_cons hi, List.map_cons]
theorem L22 (s : Su) (b : Int) : F22 ((s, b, ()) : Su × Int × Unit) = some (rateP s b) := by
 refine N22 _ _ ?_
 rw [L89 s b s.1.length (fun h => by have := ((chkP_ok s).1 h).b3; omega)]
 simp only [Option.bind_some]
 unfold rateP
 rw [errP_index]
 by_cases he : indexP s b s.1.length = 0
 ·obtain ⟨hs, b0, b1⟩ := index_ok he
  rw [if_pos he, he, L88_0 hs]
  simp only [Option.bind_some]
  by_cases ht : trP s = []
  ·rw [if_pos ht, if_pos ((refL_nil hs).2 ht), if_neg (by decide)]
   exact Ev.all fun _ => by first | rfl | trivial
  ·have hr : refL s ≠ [] := fun h => ht ((refL_nil hs).1 h)
   have hpos := List.length_pos_iff.2 hr
   have cap := refL_cap hs
   rw [if_neg ht, if_neg hr, if_pos rfl]
   simp only [bne_self_eq_false, cond_false]
   have g0 : (refL s).getD 0 ([], [], ()) = (refL s)[0] := getD_lt hpos
   have ok0 := refL_ok hs hpos
   rw [g0, dec_t (show (0 : Int) < ((refL s).length : Int) by omega), dec_t b0, dec_t (show b < ((refL s)[0].1.length : Int) by rw [ok0.rl]; exact b1)]
   simp only [Bool.and_self, cond_true]
   rw [map_tr hs (fun t => t.1.getD b.toNat 0) (fun t => t.1.getD b.toNat 0) (fun t => pad_getD), hull_from hpos, show (refL s).getD 0 tr0 = (refL s)[0] from g0]
   have key : ∀ (c i : Nat) (x : Sp), i + c = (refL s).length → Ev fun k => T22_0 b (refL s) i (0, 0, ()) x k = some ((((refL s).drop i).map fun t => t.1.getD b.toNat 0).foldl wide x, 0, ()) := by
    intro c
    induction c with
    | zero =>
     intro i x hi
     refine R22_0 _ _ _ _ _ ?_
     rw [dec_f (by omega), List.drop_eq_nil_of_le (by omega)]
     exact Ev.all fun _ => by first | rfl | trivial
    | succ c ih =>
     intro i x hi
     have hlt : i < (refL s).length := by omega
     have ok := refL_ok hs hlt
     refine R22_0 _ _ _ _ _ ?_
     rw [dec_t (show (i : Int) < ((refL s).length : Int) by omega), dec_t (show (0 : Int) ≤ (i : Int) by omega), Int.toNat_natCast, show (refL s).getD i ([], [], ()) = (refL s)[i] from getD_lt hlt, dec_t b0, dec_t (show b < ((refL s)[i].1.length : Int) by rw [ok.rl]; exact b1), wrap_succ (n := i) (by omega), L90, drop_map hlt, List.foldl_cons]
     exact ih (i + 1) _ (by omega)
   exact key _ 1 _ (show 1 + ((refL s).length - 1) = _ by omega)
 ·rw [if_neg he, if_neg he, L88_e s he]
  simp only [Option.bind_some]
  rw [nbqf he]
  exact Ev.all fun _ => by first | rfl | trivial
theorem L27 (s : Su) : F27 ((s, ()) : Su × Unit) = some (groupsP s) := by
 refine N27 _ ?_
 rw [L20]
 simp only [Option.bind_some]
 unfold groupsP
 rw [errP_none]
 by_cases he : (chkP s).2.2.1 = 0
 ·have hs := (chkP_ok s).1 he
  have h5 := hs.n5
  rw [if_pos he, he, L88_0 hs]
  simp only [Option.bind_some]
  by_cases ht : trP s = []
  ·rw [if_pos ht, if_pos ((refL_nil hs).2 ht), if_neg (by decide)]
   exact Ev.all fun _ => by first | rfl | trivial
  ·have hr : refL s ≠ [] := fun h => ht ((refL_nil hs).1 h)
   have hpos := List.length_pos_iff.2 hr
   have cap := refL_cap hs
   rw [if_neg ht, if_neg hr, if_pos rfl]
   simp only [bne_self_eq_false, cond_false]
   have g0 : (refL s).getD 0 ([], [], ()) = (refL s)[0] := getD_lt hpos
   have ok0 := refL_ok hs hpos
   rw [g0, dec_t (show (0 : Int) < ((refL s).length : Int) by omega), L43 _ (by rw [ok0.gl]; omega), ok0.gl]
   simp only [Bool.and_self, cond_true, Option.bind_some]
   have hm : ∀ t : Tr, manyP s.2.2.1.length (pad 5 t.2.1) = manyP s.2.2.1.length t.2.1 := fun t => by
    unfold manyP
    simp only [pad_getD]
   rw [map_tr hs (fun t => (manyP s.2.2.1.length t.2 : Int)) (fun t => (manyP s.2.2.1.length t.2.1 : Int)) (fun t => by rw [hm]), hull_from hpos, show (refL s).getD 0 tr0 = (refL s)[0] from g0]
   have key : ∀ (c i : Nat) (x : Sp), i + c = (refL s).length → Ev fun k => T27_0 (refL s) i (0, 0, ()) x k = some ((((refL s).drop i).map fun t => (manyP s.2.2.1.length t.2.1 : Int)).foldl wide x, 0, ()) := by
    intro c
    induction c with
    | zero =>
     intro i x hi
     refine R27_0 _ _ _ _ ?_
     rw [dec_f (by omega), List.drop_eq_nil_of_le (by omega)]
     exact Ev.all fun _ => by first | rfl | trivial
    | succ c ih =>
     intro i x hi
     have hlt : i < (refL s).length := by omega
     have ok := refL_ok hs hlt
     refine R27_0 _ _ _ _ ?_
     rw [dec_t (show (i : Int) < ((refL s).length : Int) by omega), dec_t (show (0 : Int) ≤ (i : Int) by omega), Int.toNat_natCast, show (refL s).getD i ([], [], ()) = (refL s)[i] from getD_lt hlt, L43 _ (by rw [ok.gl]; omega), ok.gl, wrap_succ (n := i) (by omega), drop_map hlt, List.foldl_cons]
     simp only [Bool.and_self, cond_true, Option.bind_some]
     rw [L90]
     exact ih (i + 1) _ (by omega)
   exact key _ 1 _ (show 1 + ((refL s).length - 1) = _ by omega)
 ·rw [if_neg he, if_neg he, L88_e s he]
  simp only [Option.bind_some]
  rw [nbqf he]
  exact Ev.all fun _ => by first | rfl | trivial
theorem L32 (s : Su) (a day : Int) : F32 ((s, a, day, ()) : Su × Int × Int × Unit) = some (whereP s a day) := by
 refine N32 _ _ _ ?_
 rw [L102]
 simp only [Option.bind_some]
 unfold whereP
 rw [errP_dated]
 by_cases he : datedP s a day = 0
 ·obtain ⟨hs, ⟨a0, a1⟩, d0, d1⟩ := dated_ok he
  rw [if_pos he, he, L88_0 hs]
  simp only [Option.bind_some]
  by_cases ht : trP s = []
  ·rw [if_pos ht, if_pos ((refL_nil hs).2 ht), if_neg (by decide)]
   exact Ev.all fun _ => by first | rfl | trivial
  ·have hr : refL s ≠ [] := fun h => ht ((refL_nil hs).1 h)
   have hpos := List.length_pos_iff.2 hr
   have cap := refL_cap hs
   have hx := hs.seen a.toNat (by omega)
   rw [if_neg ht, if_neg hr, if_pos rfl]
   simp only [bne_self_eq_false, cond_false]
   have g0 : (refL s).getD 0 ([], [], ()) = (refL s)[0] := getD_lt hpos
   have ok0 := refL_ok hs hpos
   rw [g0, dec_t (show (0 : Int) < ((refL s).length : Int) by omega), dec_t a0, dec_t a1, show s.2.2.1.getD a.toNat (0, 0, 0, ()) = s.2.2.1.getD a.toNat sn0 from rfl, L44 _ _ _ ok0.rb (by rw [ok0.rl]; exact hx.2.1) hx.1 hx.2.2 (by omega)]
   simp only [Bool.and_self, cond_true, Option.bind_some]
   have hm : ∀ t : Tr, placeP (s.2.2.1.getD a.toNat sn0) (pad 3 t.1) day = placeP (s.2.2.1.getD a.toNat sn0) t.1 day := fun t => by
    unfold placeP
    rw [pad_getD]
   rw [map_tr hs (fun t => placeP (s.2.2.1.getD a.toNat sn0) t.1 day) (fun t => placeP (s.2.2.1.getD a.toNat sn0) t.1 day) hm, hull_from hpos, show (refL s).getD 0 tr0 = (refL s)[0] from g0]
   have key : ∀ (c i : Nat) (x : Sp), i + c = (refL s).length → Ev fun k => T32_0 a day (refL s) i s (0, 0, ()) x k = some ((((refL s).drop i).map fun t => placeP (s.2.2.1.getD a.toNat sn0) t.1 day).foldl wide x, 0, ()) := by
    intro c
    induction c with
    | zero =>
     intro i x hi
     refine R32_0 _ _ _ _ _ _ _ ?_
     rw [dec_f (by omega), List.drop_eq_nil_of_le (by omega)]
     exact Ev.all fun _ => by first | rfl | trivial
    | succ c ih =>
     intro i x hi
     have hlt : i < (refL s).length := by omega
     have ok := refL_ok hs hlt
     refine R32_0 _ _ _ _ _ _ _ ?_
     rw [dec_t (show (i : Int) < ((refL s).length : Int) by omega), dec_t (show (0 : Int) ≤ (i : Int) by omega), dec_t a0, dec_t a1, Int.toNat_natCast, show s.2.2.1.getD a.toNat (0, 0, 0, ()) = s.2.2.1.getD a.toNat sn0 from rfl, show (refL s).getD i ([], [], ()) = (refL s)[i] from getD_lt hlt, L44 _ _ _ ok.rb (by rw [ok.rl]; exact hx.2.1) hx.1 hx.2.2 (by omega), wrap_succ (n := i) (by omega), drop_map hlt, List.foldl_cons]
     simp only [Bool.and_self, cond_true, Option.bind_some]
     rw [L90]
     exact ih (i + 1) _ (by omega)
   exact key _ 1 _ (show 1 + ((refL s).length - 1) = _ by omega)
 ·rw [if_neg he, if_neg he, L88_e s he]
  simp only [Option.bind_some]
  rw [nbqf he]
  exact Ev.all fun _ => by first | rfl | trivial
theorem count_take {l : List Tr} {i : Nat} (hi : i < l.length) (q : Tr → Bool) : (l.take (i + 1)).countP q = (l.take i).countP q + (if q l[i] = true then 1 else 0) := by
 rw [List.take_add_one, List.getElem?_eq_getElem hi, List.countP_append]
 simp [List.countP_cons]
theorem count_le (l : List Tr) (i : Nat) (q : Tr → Bool) : (l.take i).countP q ≤ l.length := by
 have := List.countP_le_length (p := q) (l := l.take i)
 rw [List.length_take] at this
 omega
theorem L34 (s : Su) (a day : Int) : F34 ((s, a, day, ()) : Su × Int × Int × Unit) = some (hiddenP s a day) := by
 refine N34 _ _ _ ?_
 rw [L102]
 simp only [Option.bind_some]
 unfold hiddenP
 rw [errP_dated]
 by_cases he : datedP s a day = 0
 ·obtain ⟨hs, ⟨a0, a1⟩, d0, d1⟩ := dated_ok he
  rw [if_pos he, he, L88_0 hs]
  simp only [Option.bind_some]
  by_cases ht : trP s = []
  ·rw [if_pos ht, if_pos ((refL_nil hs).2 ht), if_neg (by decide)]
   exact Ev.all fun _ => by first | rfl | trivial
  ·have hr : refL s ≠ [] := fun h => ht ((refL_nil hs).1 h)
   have cap := refL_cap hs
   have hx := hs.seen a.toNat (by omega)
   rw [if_neg ht, if_neg hr, if_pos rfl]
   simp only [bne_self_eq_false, cond_false]
   have hm : ∀ t : Tr, farP (placeP (s.2.2.1.getD a.toNat sn0) (pad 3 t.1) day) 90 = farP (placeP (s.2.2.1.getD a.toNat sn0) t.1 day) 90 := fun t => by
    unfold placeP
    rw [pad_getD]
   rw [count_tr hs (fun t => farP (placeP (s.2.2.1.getD a.toNat sn0) t.1 day) 90) (fun t => farP (placeP (s.2.2.1.getD a.toNat sn0) t.1 day) 90) hm, len_tr hs]
   have key : ∀ (c i : Nat), i + c = (refL s).length → Ev fun k => T34_0 a day (refL s) (((refL s).take i).countP fun t => farP (placeP (s.2.2.1.getD a.toNat sn0) t.1 day) 90 : Nat) i s k = some (settledP ((refL s).countP fun t => farP (placeP (s.2.2.1.getD a.toNat sn0) t.1 day) 90) (refL s).length, 0, ()) := by
    intro c
    induction c with
    | zero =>
     intro i hi
     refine R34_0 _ _ _ _ _ _ ?_
     rw [dec_f (by omega), List.take_of_length_le (by omega), L93]
     exact Ev.all fun _ => by first | rfl | trivial
    | succ c ih =>
     intro i hi
     have ih := ih (i + 1) (by omega)
     have hlt : i < (refL s).length := by omega
     have ok := refL_ok hs hlt
     have hp := placeR_bd (x := s.2.2.1.getD a.toNat sn0) (day := day) ok.rb hx.1 hx.2.2 (by omega)
     have hle := count_le (refL s) i fun t => farP (placeP (s.2.2.1.getD a.toNat sn0) t.1 day) 90
     refine R34_0 _ _ _ _ _ _ ?_
     rw [count_take hlt] at ih
     rw [dec_t (show (i : Int) < ((refL s).length : Int) by omega), dec_t (show (0 : Int) ≤ (i : Int) by omega), dec_t a0, dec_t a1, Int.toNat_natCast, show s.2.2.1.getD a.toNat (0, 0, 0, ()) = s.2.2.1.getD a.toNat sn0 from rfl, show (refL s).getD i ([], [], ()) = (refL s)[i] from getD_lt hlt, L44 _ _ _ ok.rb (by rw [ok.rl]; exact hx.2.1) hx.1 hx.2.2 (by omega), wrap_succ (n := i) (by omega), wrap_succ (by omega)]
     simp only [Bool.and_self, cond_true, Option.bind_some]
     rw [L46 _ (by omega) (by omega)]
     simp only [Option.bind_some]
     cases hq : farP (placeP (s.2.2.1.getD a.toNat sn0) (refL s)[i].1 day) 90 with
     | true => rw [hq, if_pos rfl] at ih; exact ih
     | false => rw [hq, if_neg (by decide)] at ih; exact ih
   exact key _ 0 (Nat.zero_add _)
 ·rw [if_neg he, if_neg he, L88_e s he]
  simp only [Option.bind_some]
  rw [nbqf he]
  exact Ev.all fun _ => by first | rfl | trivial
end Go.Proofs.Ytkhhbpocmmmnmaa
/- The reference's Same, Fewest, Wrong are the program's. Conditions: as each lemma states. -/
namespace Go.Proofs.Ytkhhbpocmmmnmaa
open Go Go.Gh Go.Proofs
open Go.Few
def twoP (s : Su) (a c : Int) : Int := if indexP s a s.2.2.1.length = 0 then (if indexP s c s.2.2.1.length = 0 then (if a = c then 2 else 0) else indexP s c s.2.2.1.length) else indexP s a s.2.2.1.length
theorem errP_two (s : Su) (a c : Int) : errP s (askS s a c) = if twoP s a c = 0 then (if trP s = [] then 8 else 0) else twoP s a c := by
 unfold errP twoP indexP askS
 by_cases hc : (chkP s).2.2.1 = 0
 ·simp only [if_pos hc]
  have e : (askB s.2.2.1.length [a, c]).1 = (!(outP s.2.2.1.length a || outP s.2.2.1.length c)) := by simp [askB]
  rw [List.find?_cons, e]
  cases outP s.2.2.1.length a with
  | true => simp [askB]
  | false =>
   cases outP s.2.2.1.length c with
   | true => simp [askB]
   | false =>
    rw [find_one]
    by_cases h : a = c
    ·simp [h]
    ·have : (a != c) = true := by simpa using h
     simp [h, this]
 ·simp only [if_neg hc]
theorem L24_0 {s : Su} (hs : VS s) {a c : Int} (a0 : 0 ≤ a) (a1 : a < s.2.2.1.length) (c0 : 0 ≤ c) (c1 : c < s.2.2.1.length) : ∀ (d i : Nat), i + d = (refL s).length → Ev fun k => T24_0 a c (refL s) (((refL s).take i).countP fun t => t.2.1.getD a.toNat 0 == t.2.1.getD c.toNat 0 : Nat) i k = some (settledP ((refL s).countP fun t => t.2.1.getD a.toNat 0 == t.2.1.getD c.toNat 0) (refL s).length, 0, ()) := by
 have cap := refL_cap hs
 intro d
 induction d with
 | zero =>
  intro i hi
  refine R24_0 _ _ _ _ _ ?_
  rw [dec_f (by omega), List.take_of_length_le (by omega), L93]
  exact Ev.all fun _ => by first | rfl | trivial
 | succ d ih =>
  intro i hi
  have ih := ih (i + 1) (by omega)
  have hlt : i < (refL s).length := by omega
  have ok := refL_ok hs hlt
  have hle := count_le (refL s) i fun t => t.2.1.getD a.toNat 0 == t.2.1.getD c.toNat 0
  refine R24_0 _ _ _ _ _ ?_
  rw [count_take hlt] at ih
  rw [dec_t (show (i : Int) < ((refL s).length : Int) by omega), dec_t (show (0 : Int) ≤ (i : Int) by omega), Int.toNat_natCast, show (refL s).getD i ([], [], ()) = (refL s)[i] from getD_lt hlt, dec_t a0, dec_t (show a < ((refL s)[i].2.1.length : Int) by rw [ok.gl]; exact a1), dec_t c0, dec_t (show c < ((refL s)[i].2.1.length : Int) by rw [ok.gl]; exact c1), wrap_succ (n := i) (by omega), wrap_succ (by omega)]
  simp only [Bool.and_self, cond_true]
  cases hq : ((refL s)[i].2.1.getD a.toNat 0 == (refL s)[i].2.1.getD c.toNat 0) with
  | true => rw [hq, if_pos rfl] at ih; exact ih
  | false => rw [hq, if_neg (by decide)] at ih; exact ih
theorem L24_e (s : Su) (a c : Int) (he : (twoP s a c = 0 → VS s ∧ (0 ≤ a ∧ a < s.2.2.1.length) ∧ 0 ≤ c ∧ c < s.2.2.1.length)) : Ev fun k => (Option.bind (F88 ((s, twoP s a c, ()) : Su × Int × Unit)) fun (y : List Tr × Int × Unit) => bif y.2.1 != 0 then some (0, y.2.1, ()) else T24_0 a c y.1 0 0 k : Option (denL [(.int .i64), (.int .i64)])) = some (sameP s a c) := by
 unfold sameP
 rw [errP_two]
 by_cases h : twoP s a c = 0
 ·obtain ⟨hs, ⟨a0, a1⟩, c0, c1⟩ := he h
  rw [if_pos h, h, L88_0 hs]
  simp only [Option.bind_some]
  by_cases ht : trP s = []
  ·rw [if_pos ht, if_pos ((refL_nil hs).2 ht), if_neg (by decide)]
   exact Ev.all fun _ => by first | rfl | trivial
  ·have hr : refL s ≠ [] := fun h => ht ((refL_nil hs).1 h)
   rw [if_neg ht, if_neg hr, if_pos rfl]
   simp only [bne_self_eq_false, cond_false]
   rw [count_tr hs (fun t => t.2.getD a.toNat 0 == t.2.getD c.toNat 0) (fun t => t.2.1.getD a.toNat 0 == t.2.1.getD c.toNat 0) (fun t => by simp only [pad_getD]), len_tr hs]
   exact L24_0 hs a0 a1 c0 c1 _ 0 (Nat.zero_add _)
 ·rw [if_neg h, if_neg h, L88_e s h]
  simp only [Option.bind_some]
  rw [nbqf h]
  exact Ev.all fun _ => by first | rfl | trivial
theorem L24 (s : Su) (a c : Int) : F24 ((s, a, c, ()) : Su × Int × Int × Unit) = some (sameP s a c) := by
 refine N24 _ _ _ ?_
 have hn : (chkP s).2.2.1 = 0 → s.2.2.1.length < 1000000 := fun h => by have := ((chkP_ok s).1 h).n5; omega
 rw [L89 s a _ hn, L89 s c _ hn]
 simp only [Option.bind_some]
 by_cases h1 : indexP s a s.2.2.1.length = 0
 ·rw [bq h1]
  obtain ⟨hs, ha⟩ := index_ok h1
  by_cases h2 : indexP s c s.2.2.1.length = 0
  ·obtain ⟨_, hc⟩ := index_ok h2
   rw [bq h2]
   by_cases h3 : a = c
   ·have e : twoP s a c = 2 := by unfold twoP; rw [if_pos h1, if_pos h2, if_pos h3]
    have := L24_e s a c (fun _ => ⟨hs, ha, hc⟩)
    rw [e] at this
    rw [bq h3]
    exact this
   ·have e : twoP s a c = 0 := by unfold twoP; rw [if_pos h1, if_pos h2, if_neg h3]
    have := L24_e s a c (fun _ => ⟨hs, ha, hc⟩)
    rw [e] at this
    rw [bqf h3, h2]
    exact this
  ·have e : twoP s a c = indexP s c s.2.2.1.length := by unfold twoP; rw [if_pos h1, if_neg h2]
   have := L24_e s a c (fun h => absurd (e ▸ h) h2)
   rw [e] at this
   rw [bqf h2]
   exact this
 ·have e : twoP s a c = indexP s a s.2.2.1.length := by unfold twoP; rw [if_neg h1]
  have := L24_e s a c (fun h => absurd (e ▸ h) h1)
  rw [e] at this
  rw [bqf h1]
  exact this
theorem L114 (l p : List Int) (hl : l.length < 1000000) : F114 ((l, p, ()) : List Int × List Int × Unit) = some (decide (cmpL l p < 0), ()) := by
 refine N114 _ _ ?_
 have key : ∀ (c i : Nat), i + c = l.length → cmpL (l.drop i) (p.drop i) = cmpL l p → i ≤ p.length → Ev fun k => T114_0 l p i k = some (decide (cmpL l p < 0), ()) := by
  intro c
  induction c with
  | zero =>
   intro i hi he hp
   refine R114_0 _ _ _ ?_
   rw [dec_f (show ¬ (i : Int) < (l.length : Int) by omega), ← he, List.drop_eq_nil_of_le (show l.length ≤ i by omega)]
   simp only [cond_false]
   by_cases h : (l.length : Int) < (p.length : Int)
   ·rw [dec_t h, List.drop_eq_getElem_cons (show i < p.length by omega)]
    exact Ev.all fun _ => by first | rfl | trivial
   ·rw [dec_f h, List.drop_eq_nil_of_le (by omega)]
    exact Ev.all fun _ => by first | rfl | trivial
  | succ c ih =>
   intro i hi he hp
   refine R114_0 _ _ _ ?_
   have hlt : i < l.length := by omega
   rw [dec_t (show (i : Int) < (l.length : Int) by omega), dec_t (show (0 : Int) ≤ (i : Int) by omega), wrap_succ (n := i) (by omega), Int.toNat_natCast, getD_lt hlt]
   simp only [Bool.and_self, cond_true, Bool.true_and]
   rw [List.drop_eq_getElem_cons hlt] at he
   by_cases h : i < p.length
   ·rw [dec_t (show (i : Int) < (p.length : Int) by omega), getD_lt h]
    rw [List.drop_eq_getElem_cons h, cmpL] at he
    simp only [cond_true]
    unfold cmp1 at he
    by_cases h1 : l[i] = p[i]
    ·rw [nbq h1]
     rw [if_neg (show ¬ (if l[i] < p[i] then (-1 : Int) else if l[i] > p[i] then 1 else 0) ≠ 0 by rw [if_neg (by omega), if_neg (by omega)]; exact fun h => h rfl)] at he
     exact ih (i + 1) (by omega) he (by omega)
    ·rw [nbqf h1]
     by_cases h2 : l[i] < p[i]
     ·rw [if_pos h2] at he
      rw [dec_t h2, ← he]
      exact Ev.all fun _ => by first | rfl | trivial
     ·rw [if_neg h2, if_pos (show l[i] > p[i] by omega)] at he
      rw [dec_f h2, ← he]
      exact Ev.all fun _ => by first | rfl | trivial
   ·rw [dec_f (show ¬ (i : Int) < (p.length : Int) by omega), ← he, List.drop_eq_nil_of_le (show p.length ≤ i by omega), dec_f (show ¬ (l.length : Int) < (p.length : Int) by omega)]
    exact Ev.all fun _ => by first | rfl | trivial
 exact key l.length 0 (by omega) rfl (Nat.zero_le _)
theorem L49 {n : Nat} (hn : n < 1000) {g b : List Int} (hg : g.length = n) (hb : b.length = n) : F49 ((g, b, ()) : List Int × List Int × Unit) = some (bfr n g b, ()) := by
 refine N49 _ _ ?_
 rw [L43 g (by omega), L43 b (by omega), hg, hb, L114 _ _ (by omega)]
 simp only [Option.bind_some]
 rw [ltc, eqc]
 unfold bfr
 cases decide (manyP n g < manyP n b) with
 | true => exact Ev.all fun _ => by first | rfl | trivial
 | false =>
  cases (manyP n g == manyP n b) with
  | true => exact Ev.all fun _ => by first | rfl | trivial
  | false => exact Ev.all fun _ => by first | rfl | trivial
theorem cmpL_self : ∀ z, cmpL z z = 0
 | [] => rfl
 | x :: z => by
  show (if cmp1 x x ≠ 0 then cmp1 x x else cmpL z z) = 0
  rw [cmp1_self, if_neg (fun h => h rfl)]
  exact cmpL_self z
theorem cmpL_app (z : List Int) : ∀ {a b : List Int}, a.length = b.length → cmpL (a ++ z) (b ++ z) = cmpL a b
 | [], [], _ => by
  rw [List.nil_append, cmpL_self]
  rfl
 | x :: a, y :: b, h => by
  simp only [List.cons_append, cmpL]
  rw [cmpL_app z (by simpa using h)]
 | [], _ :: _, h | _ :: _, [], h => by simp at h
theorem bfr_pad {n : Nat} {g b : List Int} (hg : g.length = n) (hb : b.length = n) : bfr n (pad 5 g) (pad 5 b) = bfr n g b := by
 have hm : ∀ t : List Int, manyP n (pad 5 t) = manyP n t := fun t => by
  unfold manyP
  simp only [pad_getD]
 unfold bfr
 rw [hm, hm]
 congr 3
 unfold pad
 rw [hg, hb, cmpL_app _ (by rw [hg, hb])]
theorem best_pad {n : Nat} : ∀ (l : List (List Int)) (b : List Int), b.length = n → (∀ g ∈ l, g.length = n) →
  (l.map (pad 5)).foldl (fun b g => if bfr n g b = true then g else b) (pad 5 b) = pad 5 (l.foldl (fun b g => if bfr n g b = true then g else b) b) ∧ (l.foldl (fun b g => if bfr n g b = true then g else b) b).length = n
 | [], b, hb, _ => ⟨rfl, hb⟩
 | g :: l, b, hb, hl => by
  have hg := hl g (by simp)
  rw [List.map_cons, List.foldl_cons, List.foldl_cons, bfr_pad hg hb]
  have h := best_pad l (if bfr n g b = true then g else b) (by split <;> assumption) (fun x hx => hl x (by simp [hx]))
  have e : (if bfr n g b = true then pad 5 g else pad 5 b) = pad 5 (if bfr n g b = true then g else b) := by split <;> rfl
  rw [e]
  exact h
theorem pad_take {n : Nat} {b : List Int} (hb : b.length = n) : (pad 5 b).take n = b := by
 unfold pad
 rw [List.take_append_of_le_length (by omega), List.take_of_length_le (by omega)]
theorem L29 (s : Su) : F29 ((s, ()) : Su × Unit) = some (fewestP s) := by
 refine N29 _ ?_
 rw [L20]
 simp only [Option.bind_some]
 unfold fewestP
 rw [errP_none]
 by_cases he : (chkP s).2.2.1 = 0
 ·have hs := (chkP_ok s).1 he
  have h5 := hs.n5
  rw [if_pos he, he, L88_0 hs]
  simp only [Option.bind_some]
  by_cases ht : trP s = []
  ·rw [if_pos ht, if_pos ((refL_nil hs).2 ht), if_neg (by decide)]
   exact Ev.all fun _ => by first | rfl | trivial
  ·have hr : refL s ≠ [] := fun h => ht ((refL_nil hs).1 h)
   have hpos := List.length_pos_iff.2 hr
   have cap := refL_cap hs
   rw [if_neg ht, if_neg hr, if_pos rfl]
   simp only [bne_self_eq_false, cond_false]
   have g0 : (refL s).getD 0 ([], [], ()) = (refL s)[0] := getD_lt hpos
   have ok0 := refL_ok hs hpos
   have hall : ∀ g ∈ (refL s).map (fun t => t.2.1), g.length = s.2.2.1.length := fun g hg => by
    obtain ⟨t, ht, rfl⟩ := List.mem_map.1 hg
    exact (refT_ok hs ht).gl
   have hbest : (bestL s.2.2.1.length ((trP s).map (·.2))).take s.2.2.1.length = ((refL s).drop 1).foldl (fun b t => if bfr s.2.2.1.length t.2.1 b = true then t.2.1 else b) (refL s)[0].2.1 := by
    rw [map_tr hs (fun t => t.2) (fun t => pad 5 t.2.1) (fun _ => rfl)]
    generalize hL : refL s = L at hpos hall ⊢
    cases L with
    | nil => exact absurd rfl (List.length_pos_iff.1 hpos)
    | cons t0 L =>
     have := best_pad (L.map fun t => t.2.1) t0.2.1 (hall _ (by simp)) (fun g hg => hall g (by simp at hg ⊢; exact .inr hg))
     rw [List.map_map] at this
     show ((L.map (fun t : Tr => pad 5 t.2.1)).foldl (fun b g => if bfr s.2.2.1.length g b = true then g else b) (pad 5 t0.2.1)).take s.2.2.1.length = _
     rw [show (L.map (fun t : Tr => pad 5 t.2.1)) = L.map (pad 5 ∘ fun t => t.2.1) from rfl, this.1, pad_take this.2, List.foldl_map]
     rfl
   rw [hbest, g0, dec_t (show (0 : Int) < ((refL s).length : Int) by omega)]
   simp only [Bool.and_self, cond_true]
   have key : ∀ (c i : Nat) (x : List Int), i + c = (refL s).length → x.length = s.2.2.1.length → Ev fun k => T29_0 (refL s) x i k = some (((refL s).drop i).foldl (fun b t => if bfr s.2.2.1.length t.2.1 b = true then t.2.1 else b) x, 0, ()) := by
    intro c
    induction c with
    | zero =>
     intro i x hi hx
     refine R29_0 _ _ _ ?_
     rw [dec_f (by omega), List.drop_eq_nil_of_le (by omega)]
     exact Ev.all fun _ => by first | rfl | trivial
    | succ c ih =>
     intro i x hi hx
     have hlt : i < (refL s).length := by omega
     have ok := refL_ok hs hlt
     refine R29_0 _ _ _ ?_
     rw [dec_t (show (i : Int) < ((refL s).length : Int) by omega), dec_t (show (0 : Int) ≤ (i : Int) by omega), Int.toNat_natCast, show (refL s).getD i ([], [], ()) = (refL s)[i] from getD_lt hlt, L49 (by omega) ok.gl hx, wrap_succ (n := i) (by omega), List.drop_eq_getElem_cons hlt, List.foldl_cons]
     simp only [Bool.and_self, cond_true, Option.bind_some]
     cases hq : bfr s.2.2.1.length (refL s)[i].2.1 x with
     | true => rw [if_pos rfl]; exact ih (i + 1) _ (by omega) ok.gl
     | false => rw [if_neg (by decide)]; exact ih (i + 1) _ (by omega) hx
   exact key _ 1 _ (show 1 + ((refL s).length - 1) = _ by omega) ok0.gl
 ·rw [if_neg he, if_neg he, L88_e s he]
  simp only [Option.bind_some]
  rw [nbqf he]
  exact Ev.all fun _ => by first | rfl | trivial
theorem choose2 (b m : Nat) (out : List (List Int)) (ho : out.length ≤ 16777216) (i k : Nat) (hb : b ≤ 8) (hk : k < out.length) (hl : (out.getD k []).length ≤ 8) (y : denL [(.slice (.slice (.int .i64)))]) : ∀ (e : Nat) (n : Int), n + e = b → 0 ≤ n → ∀ acc : List (List Int), (acc ++ (upto n b).map fun n => out.getD k [] ++ [n]).length ≤ 16777216 →
  (Ev fun f => T107_1 b m out i ((k + 1 : Nat) : Int) (acc ++ (upto n b).map fun n => out.getD k [] ++ [n]) f = some y) → Ev fun f => T107_2 b m out i k n acc f = some y := by
 intro e
 induction e with
 | zero =>
  intro n hn h0 acc hc h
  refine R107_2 _ _ _ _ _ _ _ ?_
  rw [upto_nil (by omega), List.map_nil, List.append_nil] at h
  rw [dec_f (by omega), wrap_succ (n := k) (by omega)]
  exact h
 | succ e ih =>
  intro n hn h0 acc hc h
  refine R107_2 _ _ _ _ _ _ _ ?_
  rw [upto_cons (by omega), List.map_cons] at h hc
  have hc' := hc
  rw [List.length_append, List.length_cons] at hc'
  rw [wrap_id (x := n + 1) (by omega) (by omega), one_set, one_set, Int.toNat_natCast, dec_t (show n < (b : Int) by omega), dec_t (show (0 : Int) ≤ (k : Int) by omega), dec_t (show (k : Int) < (out.length : Int) by omega), dec_t (show (out.getD k []).length ≤ 2147483648 by omega), dec_t (show (out.getD k []).length + [n].length ≤ 2147483648 by simp only [List.length_cons, List.length_nil]; omega), dec_t (show acc.length + [out.getD k [] ++ [n]].length ≤ 2147483648 by simp only [List.length_cons, List.length_nil]; omega)]
  have e1 : ∀ r : List (List Int), acc ++ (out.getD k [] ++ [n]) :: r = (acc ++ [out.getD k [] ++ [n]]) ++ r := fun r => by simp
  rw [e1] at h hc
  exact ih (n + 1) (by omega) (by omega) _ hc h
theorem choose1 (b m : Nat) (hb : b ≤ 8) (i : Nat) (hi8 : i ≤ 7) (y : denL [(.slice (.slice (.int .i64)))]) (h : Ev fun f => T107_0 b m (chooseL b (i + 1)) ((i + 1 : Nat) : Int) f = some y) : ∀ (e k : Nat), k + e = (chooseL b i).length → ∀ acc : List (List Int), acc ++ ((chooseL b i).drop k).flatMap (fun o => (upto (Few.firstOf i o) b).map fun n => o ++ [n]) = chooseL b (i + 1) →
  Ev fun f => T107_1 b m (chooseL b i) i k acc f = some y := by
 have hcap := chooseL_cap hb (show i ≤ 8 by omega)
 have hcap' := chooseL_cap hb (show i + 1 ≤ 8 by omega)
 intro e
 induction e with
 | zero =>
  intro k hk acc ha
  refine R107_1 _ _ _ _ _ _ ?_
  rw [List.drop_eq_nil_of_le (by omega), List.flatMap_nil, List.append_nil] at ha
  rw [dec_f (by omega), wrap_succ (n := i) (by omega), ha]
  exact h
 | succ e ih =>
  intro k hk acc ha
  refine R107_1 _ _ _ _ _ _ ?_
  have hlt : k < (chooseL b i).length := by omega
  have hr := mem_chooseL.1 (List.getElem_mem hlt)
  have hg : (chooseL b i).getD k [] = (chooseL b i)[k] := getD_lt hlt
  have hf0 := firstOf_ge hr
  have hf1 := firstOf_le (by omega) hr
  rw [List.drop_eq_getElem_cons hlt, List.flatMap_cons, ← List.append_assoc] at ha
  have hle : (acc ++ (upto (Few.firstOf i (chooseL b i)[k]) b).map fun n => (chooseL b i)[k] ++ [n]).length ≤ 16777216 := by
   have := congrArg List.length ha
   rw [List.length_append] at this
   omega
  have nxt := choose2 b m (chooseL b i) hcap i k hb hlt (by rw [hg, hr.len]; omega) y ((b : Int) - Few.firstOf i (chooseL b i)[k]).toNat (Few.firstOf i (chooseL b i)[k]) (by omega) hf0 acc (by rw [hg]; exact hle) (by rw [hg]; exact ih (k + 1) (by omega) _ ha)
  rw [dec_t (show (k : Int) < ((chooseL b i).length : Int) by omega)]
  simp only [cond_true]
  cases i with
  | zero =>
   rw [dec_f (show ¬ (((0 : Nat) : Int) > 0) by omega)]
   exact nxt
  | succ i =>
   have w1 : IntKind.wrap IntKind.i64 (((i + 1 : Nat) : Int) - 1) = (i : Int) := by rw [wrap_id (by omega) (by omega)]; omega
   have hlen := hr.len
   have hi := hr.in_ _ (List.getElem_mem (show i < ((chooseL b (i + 1))[k]).length by omega))
   have hg2 : ((chooseL b (i + 1))[k]).getD i 0 = ((chooseL b (i + 1))[k])[i]'(by omega) := getD_lt (by omega)
   have w2 : IntKind.wrap IntKind.i64 (((chooseL b (i + 1))[k]).getD i 0 + 1) = Few.firstOf (i + 1) (chooseL b (i + 1))[k] := by
    rw [hg2, wrap_id (by omega) (by omega), Few.firstOf, if_pos (by omega), Nat.add_sub_cancel, hg2]
   rw [dec_t (show (((i + 1 : Nat) : Int) > 0) by omega), w1, Int.toNat_natCast, Int.toNat_natCast, hg, w2, dec_t (show (0 : Int) ≤ (k : Int) by omega), dec_t (show (0 : Int) ≤ (i : Int) by omega), dec_t (show (i : Int) < (((chooseL b (i + 1))[k]).length : Int) by omega)]
   exact nxt
theorem L107 (b m : Nat) (hb : b ≤ 8) (hm : m ≤ 8) : F107 (((b : Int), (m : Int), ()) : Int × Int × Unit) = some (chooseL b m, ()) := by
 refine N107 _ _ ?_
 have key : ∀ (e i : Nat), i + e = m → Ev fun f => T107_0 b m (chooseL b i) i f = some (chooseL b m, ()) := by
  intro e
  induction e with
  | zero =>
   intro i hi
   obtain rfl : i = m := by omega
   refine R107_0 _ _ _ _ ?_
   rw [dec_f (by omega)]
   exact Ev.all fun _ => by first | rfl | trivial
  | succ e ih =>
   intro i hi
   refine R107_0 _ _ _ _ ?_
   rw [dec_t (show (i : Int) < (m : Int) by omega)]
   exact choose1 b m hb i (by omega) _ (ih (i + 1) (by omega)) (chooseL b i).length 0 (by omega) [] (by rw [List.drop_zero, List.nil_append]; rfl)
 exact key m 0 (by omega)
theorem bits_in {l : List Int} (hl : ∀ x ∈ l, 0 ≤ x) : (Few.bitsL l).testBit = inL l := by
 funext i
 rw [Bool.eq_iff_iff, Few.bitsL_bit hl]
 unfold inL
 rw [decide_eq_true_eq]
theorem okW_ref {s : Su} (hs : VS s) {l : List Int} (hl : ∀ x ∈ l, 0 ≤ x) : okW s l = decide (refT s (inL l) ≠ []) := by
 unfold okW
 rw [bits_in hl, ← refT_pad hs, Bool.eq_iff_iff, decide_eq_true_eq, decide_eq_true_eq]
 simp
def idxL (s : Su) : List Int := upto 0 (s.2.2.2.1.length : Nat)
theorem idx_len (s : Su) : (idxL s).length = s.2.2.2.1.length := by
 unfold idxL
 rw [Few.upto_len]; omega
theorem idx_get (s : Su) {i : Nat} (h : i < s.2.2.2.1.length) : (idxL s).getD i 0 = (i : Int) := by
 rw [getD_lt (by rw [idx_len]; exact h)]
 unfold idxL upto
 simp
theorem pick_id (s : Su) {l : List Int} (h : ∀ x ∈ l, 0 ≤ x ∧ x < (s.2.2.2.1.length : Int)) : Few.pick (idxL s) l = l := by
 unfold Few.pick
 refine (List.map_congr_left fun x hx => ?_).trans (List.map_id l)
 have := h x hx
 rw [idx_get s (by omega)]
 simp only [id]
 omega
theorem subs_choose (s : Su) (m : Nat) : Few.subs (idxL s) m = chooseL (s.2.2.2.1.length : Nat) m := by
 unfold Few.subs
 rw [idx_len]
 refine (List.map_congr_left fun l hl => ?_).trans (List.map_id _)
 exact pick_id s (mem_chooseL.1 hl).in_
theorem sel_nums (s : Su) (set : Nat) : ∀ j, j ≤ s.2.2.2.1.length → Few.selB (idxL s) set j = numsL (set.testBit ·) j
 | 0, _ => rfl
 | j + 1, h => by
  rw [numsL_succ, ← sel_nums s set j (by omega)]
  simp only [Few.selB, idx_get s (show j < s.2.2.2.1.length by omega)]
theorem bits_sets (s : Su) : Few.byBits (idxL s) = setsL s.2.2.2.1.length 0 (2 ^ s.2.2.2.1.length) := by
 unfold Few.byBits setsL
 rw [idx_len, ← List.range_eq_range']
 exact List.map_congr_left fun set _ => sel_nums s set _ (Nat.le_refl _)
theorem wrong_find {s : Su} (h0 : (chkP s).2.2.1 = 0) : wrongP s = match (Few.subsTo (idxL s) (s.2.2.2.1.length + 1)).find? (okW s) with
  | some r => (r, 0, ())
  | none => ([], 8, ()) := by
 have hsf := Few.scan_find (ok := okW s) (ok' := okW s) (hs := idxL s) (show (idxL s).Pairwise (· < ·) from Few.upto_pair _ _) fun _ _ => rfl
 rw [bits_sets, idx_len] at hsf
 unfold wrongP
 rw [if_pos h0]
 cases hf : (Few.subsTo (idxL s) (s.2.2.2.1.length + 1)).find? (okW s) with
 | some r => rw [hsf.1 r hf]; rfl
 | none => rw [hsf.2 hf]; rfl
theorem find_drop' {ok : List Int → Bool} {L : List (List Int)} {i : Nat} (h : i < L.length) : (L.drop i).find? ok = if ok L[i] = true then some L[i] else (L.drop (i + 1)).find? ok := by
 rw [List.drop_eq_getElem_cons h, List.find?_cons]
 cases ok L[i] <;> rfl
theorem L36 (s : Su) : F36 ((s, ()) : Su × Unit) = some (wrongP s) := by
 refine N36 _ ?_
 rw [L20 s]
 simp only [Option.bind_some]
 by_cases h0 : (chkP s).2.2.1 = 0
 ·have hs := (chkP_ok s).1 h0
  have h3 := hs.t3
  rw [nbq h0, wrong_find h0]
  simp only [cond_false]
  have outer : ∀ (c m : Nat), m + c = s.2.2.2.1.length + 1 → (Few.subsTo (idxL s) m).find? (okW s) = none → Ev fun k => T36_0 m s k = some (match (Few.subsTo (idxL s) (s.2.2.2.1.length + 1)).find? (okW s) with
    | some r => (r, 0, ())
    | none => ([], 8, ())) := by
   intro c
   induction c with
   | zero =>
    intro m hm hn
    obtain rfl : m = s.2.2.2.1.length + 1 := by omega
    refine R36_0 _ _ ?_
    rw [dec_f (by omega), hn]
    exact Ev.all fun _ => rfl
   | succ c ih =>
    intro m hm hn
    have hih := ih (m + 1) (by omega)
    rw [Few.subsTo, List.find?_append, hn, Option.none_or, subs_choose] at hih
    have hfin : ∀ r, (chooseL (s.2.2.2.1.length : Nat) m).find? (okW s) = some r → (Few.subsTo (idxL s) (s.2.2.2.1.length + 1)).find? (okW s) = some r := fun r hr => by
     have h1 : (Few.subsTo (idxL s) (m + 1)).find? (okW s) = some r := by rw [Few.subsTo, List.find?_append, hn, subs_choose, hr]; rfl
     exact Few.find_mono h1 (by omega)
    have hr : ∀ l ∈ chooseL (s.2.2.2.1.length : Nat) m, l.length = m ∧ ∀ x ∈ l, 0 ≤ x := fun l hl => ⟨(mem_chooseL.1 hl).len, fun x hx => ((mem_chooseL.1 hl).in_ x hx).1⟩
    have hcap := chooseL_cap (b := s.2.2.2.1.length) (m := m) (by omega) (by omega)
    refine R36_0 _ _ ?_
    rw [dec_t (show (m : Int) ≤ (s.2.2.2.1.length : Int) by omega), L107 _ _ (by omega) (by omega)]
    simp only [cond_true, Option.bind_some]
    generalize chooseL (s.2.2.2.1.length : Nat) m = L at *
    have inner : ∀ (c i : Nat), i + c = L.length → (L.drop i).find? (okW s) = L.find? (okW s) → Ev fun k => T36_1 m L i s k = some (match (Few.subsTo (idxL s) (s.2.2.2.1.length + 1)).find? (okW s) with
      | some r => (r, 0, ())
      | none => ([], 8, ())) := by
     intro c
     induction c with
     | zero =>
      intro i hi he
      refine R36_1 _ _ _ _ ?_
      rw [List.drop_eq_nil_of_le (by omega)] at he
      rw [dec_f (show ¬ ((i : Int) < (L.length : Int)) by omega), wrap_succ (n := m) (by omega)]
      exact hih he.symm
     | succ c ihi =>
      intro i hi he
      refine R36_1 _ _ _ _ ?_
      have hlt : i < L.length := by omega
      have hl := hr _ (List.getElem_mem hlt)
      rw [find_drop' hlt, okW_ref hs hl.2] at he
      rw [dec_t (show (i : Int) < (L.length : Int) by omega), dec_t (show (0 : Int) ≤ (i : Int) by omega), Int.toNat_natCast, getD_lt hlt, wrap_succ (n := i) (by omega), L48 hs _ (by omega)]
      simp only [Bool.and_self, cond_true, Option.bind_some]
      by_cases ht : refT s (inL L[i]) = []
      ·rw [dec_f (fun h => h ht), if_neg (by simp)] at he
       rw [ht, dec_f (by simp)]
       exact ihi (i + 1) (by omega) he
      ·rw [dec_t ht, if_pos rfl] at he
       have := List.length_pos_iff.2 ht
       rw [dec_t (show ((refT s (inL L[i])).length : Int) > 0 by omega), hfin _ he.symm]
       exact Ev.all fun _ => rfl
    exact inner L.length 0 (by omega) (by rw [List.drop_zero])
  exact outer (s.2.2.2.1.length + 1) 0 (by omega) rfl
 ·have hv : wrongP s = ([], (chkP s).2.2.1, ()) := if_neg h0
  rw [hv, nbqf h0]
  exact Ev.all fun _ => by first | rfl | trivial
theorem L30 (l k : List Int) (hl : l.length < 1000000) : F30 ((l, k, ()) : List Int × List Int × Unit) = some (decide (l = k), ()) := by
 refine N30 _ _ ?_
 by_cases hlen : l.length = k.length
 ·rw [show ((l.length : Int) == (k.length : Int)) = true from beq_iff_eq.2 (by omega)]
  have key : ∀ (c i : Nat) (b : Bool), i + c = l.length → (b = true → l.take i = k.take i) → (b = false → l ≠ k) → Ev fun f => T30_0 l k b i f = some (decide (l = k), ()) := by
   intro c
   induction c with
   | zero =>
    intro i b hi h1 h2
    refine R30_0 _ _ _ _ ?_
    rw [dec_f (show ¬ (i : Int) < (l.length : Int) by omega)]
    cases b with
    | true =>
     have := h1 rfl
     rw [List.take_of_length_le (by omega), List.take_of_length_le (by omega)] at this
     rw [dec_t this]; exact Ev.all fun _ => rfl
    | false => rw [dec_f (h2 rfl)]; exact Ev.all fun _ => rfl
   | succ c ih =>
    intro i b hi h1 h2
    have hlt : i < l.length := by omega
    have hkt : i < k.length := by omega
    refine R30_0 _ _ _ _ ?_
    cases b with
    | false => rw [dec_f (h2 rfl)]; exact Ev.all fun _ => rfl
    | true =>
     rw [dec_t (show (i : Int) < (l.length : Int) by omega), dec_t (show (0 : Int) ≤ (i : Int) by omega), dec_t (show (i : Int) < (k.length : Int) by omega), Int.toNat_natCast, getD_lt hlt, getD_lt hkt, wrap_succ (n := i) (by omega)]
     simp only [Bool.and_self, cond_true]
     refine ih (i + 1) _ (by omega) (fun h => ?_) (fun h hn => ?_)
     ·rw [List.take_add_one, List.take_add_one, h1 rfl, List.getElem?_eq_getElem hlt, List.getElem?_eq_getElem hkt, eq_of_beq h]
     ·subst hn
      simp at h
  exact key l.length 0 true (by omega) (fun _ => rfl) (fun h => by cases h)
 ·rw [show ((l.length : Int) == (k.length : Int)) = false from beq_eq_false_iff_ne.2 (by omega), dec_f (fun h => hlen (by rw [h]))]
  refine R30_0 _ _ _ _ ?_
  exact Ev.all fun _ => rfl
end Go.Proofs.Ytkhhbpocmmmnmaa
