/- What the ghost comes to: helpers of the outright statements. Conditions: none (equations, each by computation). -/
import Derived.Test.YtkbephbhajplhaaDoorCyV
import Derived.Test.YtkbephbhajplhaaDoorGhI
import Derived.Test.YtkbephbhajplhaaDoorCyY
namespace Go.Proofs.YtkbephbhajplhaaDoor
open Go Go.Gh Go.Proofs
def S109 : List Gh.Spec := []
abbrev GT109 : Type := (n : Nat) → Kept → denK (specAt S109 n) → Option (denL [(.int .i64)])
theorem E109 (G : GT109) (t0 : (List Int)) (t1 : Int) : enter cx23 S109 [(.int .i64)] 6000 some G 109 [(.slice (.int .u8)), (.int .i64)] (t0, (t1, ())) =
  bif (↑(List.length t0) : Int) == 0 then some (0, ()) else bif decide ((↑(List.length t0) : Int) = 0) then none else bif decide (0 ≤ Int.tmod t1 (↑(List.length t0) : Int)) && decide (Int.tmod t1 (↑(List.length t0) : Int) < (↑(List.length t0) : Int)) then some (IntKind.wrap IntKind.i64 (List.getD t0 (Int.toNat (Int.tmod t1 (↑(List.length t0) : Int))) 0), ()) else none := by kernel_rfl
noncomputable def F109 : denL [(.slice (.int .u8)), (.int .i64)] → Option (denL [(.int .i64)]) := ghost cx23 S109 6000 109 [(.slice (.int .u8)), (.int .i64)] [(.int .i64)]
noncomputable def C109 : Con := ⟨[(.slice (.int .u8)), (.int .i64)], [(.int .i64)], F109⟩
noncomputable def cx109 : Ctx := cx23.add 109 C109
def S38 : List Gh.Spec := []
abbrev GT38 : Type := (n : Nat) → Kept → denK (specAt S38 n) → Option (denL [.bool])
theorem E38 (G : GT38) (t0 : Se) : enter cx109 S38 [.bool] 6000 some G 38 [tSe] (t0, ()) =
  Option.bind (F18 (t0, ())) fun (y : Int × Int × Int × Unit) => some (Prod.fst (Prod.snd (Prod.snd y)) == 0, ()) := by kernel_rfl
noncomputable def F38 : denL [tSe] → Option (denL [.bool]) := ghost cx109 S38 6000 38 [tSe] [.bool]
noncomputable def C38 : Con := ⟨[tSe], [.bool], F38⟩
noncomputable def cx38 : Ctx := cx109.add 38 C38
def S51 : List Gh.Spec := []
noncomputable def F51 : denL [tSe] → Option (denL [.bool]) := ghost cx38 S51 6000 51 [tSe] [.bool]
noncomputable def C51 : Con := ⟨[tSe], [.bool], F51⟩
noncomputable def cx51 : Ctx := cx38.add 51 C51
def S39 : List Gh.Spec := [{ key := (0, 39, 3, 1), frs := [{ fn := 39, n := 98, regs := [(1, (.dat (.slice (.int .u8)))), (2, (.dat (.slice (.int .u8)))), (3, (.ptr 390003 [])), (6, (.ptr 390006 [])), (8, (.row 390041)), (9, (.dat (.int .i64)))], round := none, defers := [] }], heap := [(390003, .box (.dat tSe) false), (390006, .box (.dat tSe) false), (390041, .row (.int .i64) false)] }, { key := (0, 39, 9, 1), frs := [{ fn := 39, n := 98, regs := [(2, (.dat (.slice (.int .u8)))), (3, (.ptr 390003 [])), (6, (.ptr 390006 [])), (8, (.row 390041)), (11, (.dat (.int .i64)))], round := none, defers := [] }], heap := [(390003, .box (.agg [(.dat (.slice tSp)), (.row 390045), (.dat tSp)]) false), (390006, .box (.dat tSe) false), (390041, .row (.int .i64) true), (390045, .row tSm false)] }]
noncomputable def K39_0 : Kept := { todos := [[.inLoop (cAt Tryd.f39 [1, 1, 0, 1, 0, 0]), .inBlock 0, .code (cAt Tryd.f39 [1, 1, 1])]], cs := [noCodes, noCodes, noCodes] }
noncomputable def K39_1 : Kept := { todos := [[.inLoop (cAt Tryd.f39 [1, 1, 1, 1, 0, 1, 0, 0]), .inBlock 2, .code (cAt Tryd.f39 [1, 1, 1, 1, 1])]], cs := [noCodes, noCodes, noCodes, noCodes] }
abbrev GT39 : Type := (n : Nat) → Kept → denK (specAt S39 n) → Option (denL [tSe, (.slice (.int .i64))])
theorem E39 (G : GT39) (t0 : Se) (t1 : (List Int)) (t2 : (List Int)) : enter cx51 S39 [tSe, (.slice (.int .i64))] 6000 some G 39 [tSe, (.slice (.int .u8)), (.slice (.int .u8))] (t0, (t1, (t2, ()))) =
  G 0 K39_0 (((t1, t2, (), (), (), 0, ()), ()), t0, ([], [], (0, 0, ()), ()), [], ()) := by kernel_rfl
theorem Q39_0 (G : GT39) (t1 : (List Int)) (t2 : (List Int)) (t9 : Int) (h0 : Se) (h1 : Se) (h2 : (List Int)) : seg cx51 S39 [tSe, (.slice (.int .i64))] 6000 some G 0 K39_0 (((t1, (t2, ((), ((), ((), (t9, ())))))), ()), (h0, (h1, (h2, ())))) =
  bif decide (t9 < (↑(List.length (Prod.fst h0)) : Int)) then
 bif decide (0 ≤ t9) && decide (t9 < (↑(List.length (Prod.fst h0)) : Int)) then
  Option.bind (F109 (t1, t9, ())) fun (y : Int × Unit) =>
   bif decide (IntKind.wrap IntKind.i64 (IntKind.wrap IntKind.i64 (Prod.fst (Prod.snd (List.getD (Prod.fst h0) (Int.toNat t9) (0, 0, ()))) - Prod.fst (List.getD (Prod.fst h0) (Int.toNat t9) (0, 0, ()))) + 1) = 0) then none
   else
    bif
      decide
       (List.length h2 + List.length (List.set (List.replicate 1 0) 0 (IntKind.wrap IntKind.i64 (Prod.fst (List.getD (Prod.fst h0) (Int.toNat t9) (0, 0, ())) + Int.tmod (Prod.fst y) (IntKind.wrap IntKind.i64 (IntKind.wrap IntKind.i64 (Prod.fst (Prod.snd (List.getD (Prod.fst h0) (Int.toNat t9) (0, 0, ()))) - Prod.fst (List.getD (Prod.fst h0) (Int.toNat t9) (0, 0, ()))) + 1))))) ≤
         2147483648) then
     G 0 K39_0
      (((t1, t2, (), (), (), IntKind.wrap IntKind.i64 (t9 + 1), ()), ()), h0, h1,
        h2 ++ List.set (List.replicate 1 0) 0 (IntKind.wrap IntKind.i64 (Prod.fst (List.getD (Prod.fst h0) (Int.toNat t9) (0, 0, ())) + Int.tmod (Prod.fst y) (IntKind.wrap IntKind.i64 (IntKind.wrap IntKind.i64 (Prod.fst (Prod.snd (List.getD (Prod.fst h0) (Int.toNat t9) (0, 0, ()))) - Prod.fst (List.getD (Prod.fst h0) (Int.toNat t9) (0, 0, ()))) + 1)))), ())
    else none
 else none
 else bif decide (List.length (Prod.fst (Prod.snd h0)) ≤ 2147483648) then G 1 K39_1 (((t2, (), (), (), 0, ()), ()), (Prod.fst h0, (), Prod.fst (Prod.snd (Prod.snd h0)), ()), h1, h2, Prod.fst (Prod.snd h0), ()) else none := by kernel_rfl
theorem Q39_1 (G : GT39) (t2 : (List Int)) (t11 : Int) (h0_0 : (List Sp)) (h0_2 : Sp) (h1 : Se) (h2 : (List Int)) (h3 : (List Sm)) : seg cx51 S39 [tSe, (.slice (.int .i64))] 6000 some G 1 K39_1 (((t2, ((), ((), ((), (t11, ()))))), ()), ((h0_0, ((), (h0_2, ()))), (h1, (h2, (h3, ()))))) =
  bif decide (t11 < (↑(List.length h3) : Int)) then
 bif decide (0 ≤ t11) && decide (t11 < (↑(List.length h3) : Int)) then
  bif decide (Int.toNat t11 < List.length h3) then
   Option.bind (F47 (h2, Prod.fst (List.getD h3 (Int.toNat t11) (0, 0, (0, 0, ()), ())), Prod.fst (Prod.snd (List.getD h3 (Int.toNat t11) (0, 0, (0, 0, ()), ()))), ())) fun (y : Int × Unit) =>
    Option.bind (F109 (t2, IntKind.wrap IntKind.i64 (2 * t11), ())) fun (y_1 : Int × Unit) =>
     Option.bind (F109 (t2, IntKind.wrap IntKind.i64 (IntKind.wrap IntKind.i64 (2 * t11) + 1), ())) fun (y_2 : Int × Unit) =>
      Option.bind (F36 (if IntKind.wrap IntKind.i64 (Prod.fst y - Int.tmod (Prod.fst y_1) 4) > 0 then IntKind.wrap IntKind.i64 (Prod.fst y - Int.tmod (Prod.fst y_1) 4) else 0, if IntKind.wrap IntKind.i64 (Prod.fst y + Int.tmod (Prod.fst y_2) 4) < 999 then IntKind.wrap IntKind.i64 (Prod.fst y + Int.tmod (Prod.fst y_2) 4) else 999, ())) fun (y : Sp × Unit) =>
       bif decide (0 ≤ t11) && decide (t11 < (↑(List.length h3) : Int)) then
        bif decide (Int.toNat t11 < List.length h3) then G 1 K39_1 (((t2, (), (), (), IntKind.wrap IntKind.i64 (t11 + 1), ()), ()), (h0_0, (), h0_2, ()), h1, h2, List.set h3 (Int.toNat t11) (Prod.fst (List.getD h3 (Int.toNat t11) (0, 0, (0, 0, ()), ())), Prod.fst (Prod.snd (List.getD h3 (Int.toNat t11) (0, 0, (0, 0, ()), ()))), Prod.fst y, ()), ()) else none
       else none
  else none
 else none
 else Option.bind (F110 (h2, h0_2, ())) fun (y : Bool × Unit) => bif !Prod.fst y then Option.bind (F36 (2, 7, ())) fun (y : Sp × Unit) => some ((h0_0, h3, Prod.fst y, ()), h2, ()) else some ((h0_0, h3, h0_2, ()), h2, ()) := by kernel_rfl
noncomputable def F39 : denL [tSe, (.slice (.int .u8)), (.slice (.int .u8))] → Option (denL [tSe, (.slice (.int .i64))]) := ghost cx51 S39 6000 39 [tSe, (.slice (.int .u8)), (.slice (.int .u8))] [tSe, (.slice (.int .i64))]
noncomputable def C39 : Con := ⟨[tSe, (.slice (.int .u8)), (.slice (.int .u8))], [tSe, (.slice (.int .i64))], F39⟩
noncomputable def cx39 : Ctx := cx51.add 39 C39
def S43 : List Gh.Spec := []
abbrev GT43 : Type := (n : Nat) → Kept → denK (specAt S43 n) → Option (denL [.bool])
theorem E43 (G : GT43) (t0 : Int) (t1 : Bool) : enter cx39 S43 [.bool] 6000 some G 43 [(.int .i64), .bool] (t0, (t1, ())) =
  bif t0 == 1 then bif !t1 then some (true, ()) else bif t0 == 2 then some (t1, ()) else some (false, ()) else bif t0 == 2 then some (t1, ()) else some (false, ()) := by kernel_rfl
noncomputable def F43 : denL [(.int .i64), .bool] → Option (denL [.bool]) := ghost cx39 S43 6000 43 [(.int .i64), .bool] [.bool]
noncomputable def C43 : Con := ⟨[(.int .i64), .bool], [.bool], F43⟩
noncomputable def cx43 : Ctx := cx39.add 43 C43
def S45 : List Gh.Spec := []
abbrev GT45 : Type := (n : Nat) → Kept → denK (specAt S45 n) → Option (denL [.bool])
theorem E45 (G : GT45) (t0 : Sp) : enter cx43 S45 [.bool] 6000 some G 45 [tSp] (t0, ()) =
  Option.bind (F85 (Prod.fst t0, 0, 693, ())) fun (y : Bool × Unit) => bif Prod.fst y then Option.bind (F85 (Prod.fst (Prod.snd t0), 1, 7, ())) fun (y : Bool × Unit) => some (Prod.fst y, ()) else some (false, ()) := by kernel_rfl
noncomputable def F45 : denL [tSp] → Option (denL [.bool]) := ghost cx43 S45 6000 45 [tSp] [.bool]
noncomputable def C45 : Con := ⟨[tSp], [.bool], F45⟩
noncomputable def cx45 : Ctx := cx43.add 45 C45
def S48 : List Gh.Spec := []
abbrev GT48 : Type := (n : Nat) → Kept → denK (specAt S48 n) → Option (denL [.bool])
theorem E48 (G : GT48) (t0 : Sp) (t1 : Sp) : enter cx45 S48 [.bool] 6000 some G 48 [tSp, tSp] (t0, (t1, ())) =
  some (decide (IntKind.wrap IntKind.i64 (Prod.fst t0 * Prod.fst (Prod.snd t1)) < IntKind.wrap IntKind.i64 (Prod.fst t1 * Prod.fst (Prod.snd t0))), ()) := by kernel_rfl
noncomputable def F48 : denL [tSp, tSp] → Option (denL [.bool]) := ghost cx45 S48 6000 48 [tSp, tSp] [.bool]
noncomputable def C48 : Con := ⟨[tSp, tSp], [.bool], F48⟩
noncomputable def cx48 : Ctx := cx45.add 48 C48
def S53 : List Gh.Spec := [{ key := (0, 53, 1, 1), frs := [{ fn := 53, n := 14, regs := [(0, (.dat (.int .i64))), (1, (.dat (.int .i64)))], round := none, defers := [] }], heap := [] }]
noncomputable def F53 : denL [(.int .i64), (.int .i64)] → Option (denL [.bool]) := ghost cx48 S53 6000 53 [(.int .i64), (.int .i64)] [.bool]
noncomputable def C53 : Con := ⟨[(.int .i64), (.int .i64)], [.bool], F53⟩
noncomputable def cx53 : Ctx := cx48.add 53 C53
def S55 : List Gh.Spec := [{ key := (0, 55, 2, 1), frs := [{ fn := 55, n := 36, regs := [(0, (.dat (.slice (.int .i64)))), (1, (.dat (.int .i64))), (5, (.dat (.int .i64)))], round := none, defers := [] }], heap := [] }]
noncomputable def F55 : denL [(.slice (.int .i64)), (.int .i64)] → Option (denL [.bool]) := ghost cx53 S55 6000 55 [(.slice (.int .i64)), (.int .i64)] [.bool]
noncomputable def C55 : Con := ⟨[(.slice (.int .i64)), (.int .i64)], [.bool], F55⟩
noncomputable def cx55 : Ctx := cx53.add 55 C55
def S56 : List Gh.Spec := []
noncomputable def F56 : denL [(.slice (.int .i64)), (.slice (.int .i64))] → Option (denL [.bool]) := ghost cx55 S56 6000 56 [(.slice (.int .i64)), (.slice (.int .i64))] [.bool]
noncomputable def C56 : Con := ⟨[(.slice (.int .i64)), (.slice (.int .i64))], [.bool], F56⟩
noncomputable def cx56 : Ctx := cx55.add 56 C56
def S57 : List Gh.Spec := []
noncomputable def F57 : denL [tSp, tSp] → Option (denL [.bool]) := ghost cx56 S57 6000 57 [tSp, tSp] [.bool]
noncomputable def C57 : Con := ⟨[tSp, tSp], [.bool], F57⟩
noncomputable def cx57 : Ctx := cx56.add 57 C57
def S58 : List Gh.Spec := [{ key := (0, 58, 2, 1), frs := [{ fn := 58, n := 19, regs := [(0, (.dat (.slice (.int .i64)))), (1, (.dat (.slice (.int .i64)))), (5, (.dat (.int .i64)))], round := none, defers := [] }], heap := [] }]
noncomputable def F58 : denL [(.slice (.int .i64)), (.slice (.int .i64))] → Option (denL [.bool]) := ghost cx57 S58 6000 58 [(.slice (.int .i64)), (.slice (.int .i64))] [.bool]
noncomputable def C58 : Con := ⟨[(.slice (.int .i64)), (.slice (.int .i64))], [.bool], F58⟩
noncomputable def cx58 : Ctx := cx57.add 58 C58
noncomputable abbrev T39_0 (t1 : (List Int)) (t2 : (List Int)) (t9 : Int) (h0 : Se) (h1 : Se) (h2 : (List Int)) (f : Nat) : Option (denL [tSe, (.slice (.int .i64))]) := iter cx51 S39 [tSe, (.slice (.int .i64))] 6000 f 0 K39_0 (((t1, (t2, ((), ((), ((), (t9, ())))))), ()), (h0, (h1, (h2, ()))))
theorem U39_0 (t1 : (List Int)) (t2 : (List Int)) (t9 : Int) (h0 : Se) (h1 : Se) (h2 : (List Int)) {y : denL [tSe, (.slice (.int .i64))]} (h : Ev fun k => seg cx51 S39 [tSe, (.slice (.int .i64))] 6000 some (iter cx51 S39 [tSe, (.slice (.int .i64))] 6000 k) 0 K39_0 (((t1, (t2, ((), ((), ((), (t9, ())))))), ()), (h0, (h1, (h2, ())))) = some y) : Ev fun k => T39_0 t1 t2 t9 h0 h1 h2 k = some y := iter_ev h
noncomputable abbrev T39_1 (t2 : (List Int)) (t11 : Int) (h0_0 : (List Sp)) (h0_2 : Sp) (h1 : Se) (h2 : (List Int)) (h3 : (List Sm)) (f : Nat) : Option (denL [tSe, (.slice (.int .i64))]) := iter cx51 S39 [tSe, (.slice (.int .i64))] 6000 f 1 K39_1 (((t2, ((), ((), ((), (t11, ()))))), ()), ((h0_0, ((), (h0_2, ()))), (h1, (h2, (h3, ())))))
theorem U39_1 (t2 : (List Int)) (t11 : Int) (h0_0 : (List Sp)) (h0_2 : Sp) (h1 : Se) (h2 : (List Int)) (h3 : (List Sm)) {y : denL [tSe, (.slice (.int .i64))]} (h : Ev fun k => seg cx51 S39 [tSe, (.slice (.int .i64))] 6000 some (iter cx51 S39 [tSe, (.slice (.int .i64))] 6000 k) 1 K39_1 (((t2, ((), ((), ((), (t11, ()))))), ()), ((h0_0, ((), (h0_2, ()))), (h1, (h2, (h3, ()))))) = some y) : Ev fun k => T39_1 t2 t11 h0_0 h0_2 h1 h2 h3 k = some y := iter_ev h
theorem N109 (t0 : (List Int)) (t1 : Int) {y : denL [(.int .i64)]} (h : Ev fun k =>
 (bif (↑(List.length t0) : Int) == 0 then some (0, ()) else bif decide ((↑(List.length t0) : Int) = 0) then none else bif decide (0 ≤ Int.tmod t1 (↑(List.length t0) : Int)) && decide (Int.tmod t1 (↑(List.length t0) : Int) < (↑(List.length t0) : Int)) then some (IntKind.wrap IntKind.i64 (List.getD t0 (Int.toNat (Int.tmod t1 (↑(List.length t0) : Int))) 0), ()) else none : Option (denL [(.int .i64)])) = some y) : F109 (t0, (t1, ())) = some y := ghost_eq (Ev.eq (fun _ => E109 _ _ _) h)
theorem N38 (t0 : Se) {y : denL [.bool]} (h : Ev fun k =>
 (Option.bind (F18 (t0, ())) fun (y : Int × Int × Int × Unit) => some (Prod.fst (Prod.snd (Prod.snd y)) == 0, ()) : Option (denL [.bool])) = some y) : F38 (t0, ()) = some y := ghost_eq (Ev.eq (fun _ => E38 _ _) h)
theorem R39_0 (t1 : (List Int)) (t2 : (List Int)) (t9 : Int) (h0 : Se) (h1 : Se) (h2 : (List Int)) {y : denL [tSe, (.slice (.int .i64))]} (h : Ev fun k =>
 (bif decide (t9 < (↑(List.length (Prod.fst h0)) : Int)) then
 bif decide (0 ≤ t9) && decide (t9 < (↑(List.length (Prod.fst h0)) : Int)) then
   Option.bind (F109 (t1, t9, ())) fun (y : Int × Unit) =>
    bif decide (IntKind.wrap IntKind.i64 (IntKind.wrap IntKind.i64 (Prod.fst (Prod.snd (List.getD (Prod.fst h0) (Int.toNat t9) (0, 0, ()))) - Prod.fst (List.getD (Prod.fst h0) (Int.toNat t9) (0, 0, ()))) + 1) = 0) then none
    else
     bif
       decide
        (List.length h2 + List.length (List.set (List.replicate 1 0) 0 (IntKind.wrap IntKind.i64 (Prod.fst (List.getD (Prod.fst h0) (Int.toNat t9) (0, 0, ())) + Int.tmod (Prod.fst y) (IntKind.wrap IntKind.i64 (IntKind.wrap IntKind.i64 (Prod.fst (Prod.snd (List.getD (Prod.fst h0) (Int.toNat t9) (0, 0, ()))) - Prod.fst (List.getD (Prod.fst h0) (Int.toNat t9) (0, 0, ()))) + 1))))) ≤
          2147483648) then
      T39_0 t1 t2 (IntKind.wrap IntKind.i64 (t9 + 1)) h0 h1 (h2 ++ List.set (List.replicate 1 0) 0 (IntKind.wrap IntKind.i64 (Prod.fst (List.getD (Prod.fst h0) (Int.toNat t9) (0, 0, ())) + Int.tmod (Prod.fst y) (IntKind.wrap IntKind.i64 (IntKind.wrap IntKind.i64 (Prod.fst (Prod.snd (List.getD (Prod.fst h0) (Int.toNat t9) (0, 0, ()))) - Prod.fst (List.getD (Prod.fst h0) (Int.toNat t9) (0, 0, ()))) + 1))))) k
     else none
 else none
 else bif decide (List.length (Prod.fst (Prod.snd h0)) ≤ 2147483648) then T39_1 t2 0 (Prod.fst h0) (Prod.fst (Prod.snd (Prod.snd h0))) h1 h2 (Prod.fst (Prod.snd h0)) k else none : Option (denL [tSe, (.slice (.int .i64))])) = some y) : Ev fun k => T39_0 t1 t2 t9 h0 h1 h2 k = some y := U39_0 _ _ _ _ _ _ (Ev.eq (fun _ => Q39_0 _ _ _ _ _ _ _) h)
theorem R39_1 (t2 : (List Int)) (t11 : Int) (h0_0 : (List Sp)) (h0_2 : Sp) (h1 : Se) (h2 : (List Int)) (h3 : (List Sm)) {y : denL [tSe, (.slice (.int .i64))]} (h : Ev fun k =>
 (bif decide (t11 < (↑(List.length h3) : Int)) then
 bif decide (0 ≤ t11) && decide (t11 < (↑(List.length h3) : Int)) then
   bif decide (Int.toNat t11 < List.length h3) then
    Option.bind (F47 (h2, Prod.fst (List.getD h3 (Int.toNat t11) (0, 0, (0, 0, ()), ())), Prod.fst (Prod.snd (List.getD h3 (Int.toNat t11) (0, 0, (0, 0, ()), ()))), ())) fun (y : Int × Unit) =>
     Option.bind (F109 (t2, IntKind.wrap IntKind.i64 (2 * t11), ())) fun (y_1 : Int × Unit) =>
      Option.bind (F109 (t2, IntKind.wrap IntKind.i64 (IntKind.wrap IntKind.i64 (2 * t11) + 1), ())) fun (y_2 : Int × Unit) =>
       Option.bind (F36 (if IntKind.wrap IntKind.i64 (Prod.fst y - Int.tmod (Prod.fst y_1) 4) > 0 then IntKind.wrap IntKind.i64 (Prod.fst y - Int.tmod (Prod.fst y_1) 4) else 0, if IntKind.wrap IntKind.i64 (Prod.fst y + Int.tmod (Prod.fst y_2) 4) < 999 then IntKind.wrap IntKind.i64 (Prod.fst y + Int.tmod (Prod.fst y_2) 4) else 999, ())) fun (y : Sp × Unit) =>
        bif decide (0 ≤ t11) && decide (t11 < (↑(List.length h3) : Int)) then
         bif decide (Int.toNat t11 < List.length h3) then T39_1 t2 (IntKind.wrap IntKind.i64 (t11 + 1)) h0_0 h0_2 h1 h2 (List.set h3 (Int.toNat t11) (Prod.fst (List.getD h3 (Int.toNat t11) (0, 0, (0, 0, ()), ())), Prod.fst (Prod.snd (List.getD h3 (Int.toNat t11) (0, 0, (0, 0, ()), ()))), Prod.fst y, ())) k else none
        else none
   else none
 else none
 else Option.bind (F110 (h2, h0_2, ())) fun (y : Bool × Unit) => bif !Prod.fst y then Option.bind (F36 (2, 7, ())) fun (y : Sp × Unit) => some ((h0_0, h3, Prod.fst y, ()), h2, ()) else some ((h0_0, h3, h0_2, ()), h2, ()) : Option (denL [tSe, (.slice (.int .i64))])) = some y) : Ev fun k => T39_1 t2 t11 h0_0 h0_2 h1 h2 h3 k = some y := U39_1 _ _ _ _ _ _ _ (Ev.eq (fun _ => Q39_1 _ _ _ _ _ _ _ _) h)
theorem N39 (t0 : Se) (t1 : (List Int)) (t2 : (List Int)) {y : denL [tSe, (.slice (.int .i64))]} (h : Ev fun k =>
 (T39_0 t1 t2 0 t0 ([], [], (0, 0, ()), ()) ([]) k : Option (denL [tSe, (.slice (.int .i64))])) = some y) : F39 (t0, (t1, (t2, ()))) = some y := ghost_eq (Ev.eq (fun _ => E39 _ _ _ _) h)
theorem N43 (t0 : Int) (t1 : Bool) {y : denL [.bool]} (h : Ev fun k =>
 (bif t0 == 1 then bif !t1 then some (true, ()) else bif t0 == 2 then some (t1, ()) else some (false, ()) else bif t0 == 2 then some (t1, ()) else some (false, ()) : Option (denL [.bool])) = some y) : F43 (t0, (t1, ())) = some y := ghost_eq (Ev.eq (fun _ => E43 _ _ _) h)
theorem N45 (t0 : Sp) {y : denL [.bool]} (h : Ev fun k =>
 (Option.bind (F85 (Prod.fst t0, 0, 693, ())) fun (y : Bool × Unit) => bif Prod.fst y then Option.bind (F85 (Prod.fst (Prod.snd t0), 1, 7, ())) fun (y : Bool × Unit) => some (Prod.fst y, ()) else some (false, ()) : Option (denL [.bool])) = some y) : F45 (t0, ()) = some y := ghost_eq (Ev.eq (fun _ => E45 _ _) h)
theorem N48 (t0 : Sp) (t1 : Sp) {y : denL [.bool]} (h : Ev fun k =>
 (some (decide (IntKind.wrap IntKind.i64 (Prod.fst t0 * Prod.fst (Prod.snd t1)) < IntKind.wrap IntKind.i64 (Prod.fst t1 * Prod.fst (Prod.snd t0))), ()) : Option (denL [.bool])) = some y) : F48 (t0, (t1, ())) = some y := ghost_eq (Ev.eq (fun _ => E48 _ _ _) h)
end Go.Proofs.YtkbephbhajplhaaDoor
/- What helpers of the outright statements come to. Conditions: as each lemma states. -/
namespace Go.Proofs.YtkbephbhajplhaaDoor
open Go Go.Gh Go.Proofs Go.Few
def turnP (x : List Int) (n : Nat) : Int := if x.length = 0 then 0 else x.getD (n % x.length) 0
theorem L109 (x : List Int) (hx : ∀ v ∈ x, 0 ≤ v ∧ v ≤ 255) (n : Nat) : F109 ((x, (n : Int), ()) : List Int × Int × Unit) = some (turnP x n, ()) ∧ 0 ≤ turnP x n ∧ turnP x n ≤ 255 := by
 unfold turnP
 by_cases h : x.length = 0
 ·rw [if_pos h]
  refine ⟨N109 _ _ ?_, by decide, by decide⟩
  have : ((x.length : Int) == 0) = true := by simp [h]
  rw [this]
  exact Ev.all fun _ => by first | rfl | trivial
 ·rw [if_neg h]
  have hlt : n % x.length < x.length := Nat.mod_lt _ (by omega)
  have hv := hx _ (List.getElem_mem hlt)
  rw [getD_lt hlt]
  refine ⟨N109 _ _ ?_, hv.1, hv.2⟩
  have e1 : ((x.length : Int) == 0) = false := by simp; intro e; exact h (by simp [e])
  have e2 : Int.tmod (n : Int) (x.length : Int) = ((n % x.length : Nat) : Int) := by rw [Int.tmod_eq_emod_of_nonneg (by omega)]; simp
  rw [e1, e2, dec_f (show ¬ ((x.length : Int) = 0) by omega), dec_t (show (0 : Int) ≤ ((n % x.length : Nat) : Int) by omega), dec_t (show ((n % x.length : Nat) : Int) < (x.length : Int) by omega), Int.toNat_natCast, getD_lt hlt, wrap_id (by omega) (by omega)]
  exact Ev.all fun _ => by first | rfl | trivial
theorem L38 (s : Se) : F38 ((s, ()) : Se × Unit) = some ((chkP s).2.2.1 == 0, ()) := by
 refine N38 _ ?_
 rw [L18]
 exact Ev.all fun _ => by first | rfl | trivial
theorem L43 (how : Int) (is : Bool) : F43 ((how, is, ()) : Int × Bool × Unit) = some ((how == 1 && !is) || (how == 2 && is), ()) := by
 refine N43 _ _ (Ev.all fun _ => ?_)
 by_cases h1 : how = 1
 ·subst h1; cases is <;> rfl
 ·have e1 : (how == 1) = false := beq_eq_false_iff_ne.2 h1
  rw [e1]
  by_cases h2 : how = 2
  ·subst h2; cases is <;> rfl
  ·have e2 : (how == 2) = false := beq_eq_false_iff_ne.2 h2
   rw [e2]; cases is <;> rfl
theorem L45 {q : Sp} (h1 : 0 ≤ q.1 ∧ q.1 ≤ 693) (h2 : 1 ≤ q.2.1 ∧ q.2.1 ≤ 7) : F45 ((q, ()) : Sp × Unit) = some (true, ()) := by
 refine N45 _ ?_
 rw [L85, L85, dec_t h1.1, dec_t h1.2, dec_t h2.1, dec_t h2.2]
 exact Ev.all fun _ => by first | rfl | trivial
theorem L48 {p q : Sp} (h1 : 0 ≤ p.1 ∧ p.1 ≤ 693) (h2 : 1 ≤ p.2.1 ∧ p.2.1 ≤ 7) (h3 : 0 ≤ q.1 ∧ q.1 ≤ 693) (h4 : 1 ≤ q.2.1 ∧ q.2.1 ≤ 7) : F48 ((p, q, ()) : Sp × Sp × Unit) = some (decide (p.1 * q.2.1 < q.1 * p.2.1), ()) := by
 refine N48 _ _ ?_
 have b : ∀ {a c : Int}, 0 ≤ a ∧ a ≤ 693 → 1 ≤ c ∧ c ≤ 7 → 0 ≤ a * c ∧ a * c ≤ 4851 := fun {a c} ha hc =>
  ⟨Int.mul_nonneg ha.1 (by omega), Int.le_trans (Int.mul_le_mul ha.2 hc.2 (by omega) (by decide)) (by decide)⟩
 have b1 := b h1 h4
 have b2 := b h3 h2
 rw [wrap_id (x := p.1 * q.2.1) (by omega) (by omega), wrap_id (x := q.1 * p.2.1) (by omega) (by omega)]
 exact Ev.all fun _ => by first | rfl | trivial
theorem low_ok {a b : Int} (ha : 0 ≤ a ∧ a ≤ 693) (hb : 1 ≤ b ∧ b ≤ 7) : (0 ≤ (lowP a b).1 ∧ (lowP a b).1 ≤ 693) ∧ (1 ≤ (lowP a b).2.1 ∧ (lowP a b).2.1 ≤ 7) ∧ (lowP a b).1 * b = a * (lowP a b).2.1 := by
 obtain ⟨n, rfl⟩ := Int.eq_ofNat_of_zero_le ha.1
 obtain ⟨m, rfl⟩ := Int.eq_ofNat_of_zero_le (show 0 ≤ b by omega)
 have hm : 0 < m := by omega
 have hg : 0 < Nat.gcd n m := Nat.gcd_pos_of_pos_right _ hm
 obtain ⟨u, hu⟩ := Nat.gcd_dvd_left n m
 obtain ⟨v, hv⟩ := Nat.gcd_dvd_right n m
 have e1 : n / Nat.gcd n m = u := Nat.div_eq_of_eq_mul_right hg hu
 have e2 : m / Nat.gcd n m = v := Nat.div_eq_of_eq_mul_right hg hv
 have l1 : (lowP (n : Int) (m : Int)).1 = (u : Int) := by
  unfold lowP; rw [Int.toNat_natCast, Int.toNat_natCast]; show (n : Int) / (Nat.gcd n m : Int) = _
  rw [← Int.natCast_ediv, e1]
 have l2 : (lowP (n : Int) (m : Int)).2.1 = (v : Int) := by
  unfold lowP; rw [Int.toNat_natCast, Int.toNat_natCast]; show (m : Int) / (Nat.gcd n m : Int) = _
  rw [← Int.natCast_ediv, e2]
 have h1 : u ≤ n := by rw [← e1]; exact Nat.div_le_self _ _
 have h2 : v ≤ m := by rw [← e2]; exact Nat.div_le_self _ _
 have h3 : 0 < v := Nat.pos_of_ne_zero fun e => by rw [e, Nat.mul_zero] at hv; omega
 rw [l1, l2]
 refine ⟨by omega, by omega, ?_⟩
 have : u * m = n * v := by
  have t1 : u * m = u * (Nat.gcd n m * v) := congrArg (u * ·) hv
  have t2 : n * v = Nat.gcd n m * u * v := congrArg (· * v) hu
  rw [t1, t2, Nat.mul_left_comm, Nat.mul_assoc]
 exact_mod_cast this
theorem low_lt {a b c d : Int} (ha : 0 ≤ a ∧ a ≤ 693) (hb : 1 ≤ b ∧ b ≤ 7) (hc : 0 ≤ c ∧ c ≤ 693) (hd : 1 ≤ d ∧ d ≤ 7) : ((lowP a b).1 * (lowP c d).2.1 < (lowP c d).1 * (lowP a b).2.1) ↔ a * d < c * b := by
 obtain ⟨h1, h2, h3⟩ := low_ok ha hb
 obtain ⟨h4, h5, h6⟩ := low_ok hc hd
 generalize (lowP a b).1 = x at *
 generalize (lowP a b).2.1 = y at *
 generalize (lowP c d).1 = z at *
 generalize (lowP c d).2.1 = w at *
 have k1 : (x * w) * (b * d) = (a * d) * (y * w) := by
  rw [show (x * w) * (b * d) = (x * b) * (w * d) by simp only [Int.mul_comm, Int.mul_left_comm], h3]; simp only [Int.mul_comm, Int.mul_left_comm]
 have k2 : (z * y) * (b * d) = (c * b) * (y * w) := by
  rw [show (z * y) * (b * d) = (z * d) * (y * b) by simp only [Int.mul_comm, Int.mul_left_comm], h6]; simp only [Int.mul_comm, Int.mul_left_comm]
 have p1 : 0 < b * d := Int.mul_pos (by omega) (by omega)
 have p2 : 0 < y * w := Int.mul_pos (by omega) (by omega)
 constructor
 ·intro h
  have := Int.mul_lt_mul_of_pos_right h p1
  rw [k1, k2] at this
  exact Int.lt_of_mul_lt_mul_right this (Int.le_of_lt p2)
 ·intro h
  have := Int.mul_lt_mul_of_pos_right h p2
  rw [← k1, ← k2] at this
  exact Int.lt_of_mul_lt_mul_right this (Int.le_of_lt p1)
end Go.Proofs.YtkbephbhajplhaaDoor
