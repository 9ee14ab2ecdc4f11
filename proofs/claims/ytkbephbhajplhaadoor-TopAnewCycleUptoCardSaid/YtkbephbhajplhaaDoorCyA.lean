/- What the ghost comes to: checks, maxima, lists. Conditions: none (equations, each by computation). -/
import Derived.Test.YtkbephbhajplhaaDoorCyX
namespace Go.Proofs.YtkbephbhajplhaaDoor
open Go Go.Gh Go.Proofs
def S84 : List Gh.Spec := [{ key := (100002400008, 130, 2, 1), frs := [{ fn := 130, n := 19, regs := [(0, (.dat (.slice (.int .i64)))), (1, (.fn 119 [] [(.ptr 840003 []), (.ptr 840004 [])])), (7, (.dat (.int .i64))), (8, (.dat (.int .i64)))], round := none, defers := [] }, { fn := 118, n := 9, regs := [(5, (.dat (.slice (.int .i64)))), (6, (.fn 119 [] [(.ptr 840003 []), (.ptr 840004 [])]))], round := none, defers := [] }, { fn := 84, n := 10, regs := [(7, (.dat (.slice (.int .i64)))), (8, (.fn 119 [] [(.ptr 840003 []), (.ptr 840004 [])]))], round := none, defers := [] }], heap := [(840003, .box (.dat (.int .i64)) false), (840004, .box (.dat (.int .i64)) false)] }]
noncomputable def K84_0 : Kept := { todos := [[.inLoop (cAt Tryd.f130 [1, 0, 1, 0, 0]), .inBlock 0, .code (cAt Tryd.f130 [1, 1])], [.inRegion (oAt Tryd.f118 [1, 0]) [2, 3, 4], .code (cAt Tryd.f118 [1, 1])], [.inRegion (oAt Tryd.f84 [1, 0]) [2, 3], .code (cAt Tryd.f84 [1, 1])]], cs := [noCodes, noCodes] }
theorem E84 (G : (n : Nat) → Kept → denK (specAt S84 n) → Option (denL [.bool])) (t0 : Int) (t1 : Int) (t2 : (List Int)) : enter cx0 S84 [.bool] 6000 some G 84 [(.int .i64), (.int .i64), (.slice (.int .i64))] (t0, (t1, (t2, ()))) =
  G 0 K84_0 (((t2, ((), (), (), ()), (↑(List.length t2) : Int), 0, ()), (t2, ((), (), (), ()), ()), (t2, ((), (), (), ()), ()), ()), t0, t1, ()) := by kernel_rfl
theorem Q84_0 (G : (n : Nat) → Kept → denK (specAt S84 n) → Option (denL [.bool])) (t0 : (List Int)) (t7 : Int) (t8 : Int) (u5 : (List Int)) (v7 : (List Int)) (h0 : Int) (h1 : Int) : seg cx0 S84 [.bool] 6000 some G 0 K84_0 (((t0, (((), ((), ((), ()))), (t7, (t8, ())))), ((u5, (((), ((), ((), ()))), ())), ((v7, (((), ((), ((), ()))), ())), ()))), (h0, (h1, ()))) =
  bif decide (t8 < t7) then
 bif decide (0 ≤ t8) && decide (t8 < (↑(List.length t0) : Int)) then bif decide (List.getD t0 (Int.toNat t8) 0 < h0) then some (decide (t8 ≥ 0), ()) else bif decide (List.getD t0 (Int.toNat t8) 0 > h1) then some (decide (t8 ≥ 0), ()) else G 0 K84_0 (((t0, ((), (), (), ()), t7, IntKind.wrap IntKind.i64 (t8 + 1), ()), (u5, ((), (), (), ()), ()), (v7, ((), (), (), ()), ()), ()), h0, h1, ())
 else none
 else some (false, ()) := by kernel_rfl
noncomputable def F84 : denL [(.int .i64), (.int .i64), (.slice (.int .i64))] → Option (denL [.bool]) := ghost cx0 S84 6000 84 [(.int .i64), (.int .i64), (.slice (.int .i64))] [.bool]
noncomputable def C84 : Con := ⟨[(.int .i64), (.int .i64), (.slice (.int .i64))], [.bool], F84⟩
noncomputable def cx84 : Ctx := cx0.add 84 C84
def S81 : List Gh.Spec := []
theorem E81 (G : (n : Nat) → Kept → denK (specAt S81 n) → Option (denL [(.int .i64)])) (t0 : Sp) (t1 : Int) (t2 : Int) : enter cx84 S81 [(.int .i64)] 6000 some G 81 [tSp, (.int .i64), (.int .i64)] (t0, (t1, (t2, ()))) =
  Option.bind (F84 (t1, t2, List.set (List.set (List.replicate 2 0) 0 (Prod.fst t0)) 1 (Prod.fst (Prod.snd t0)), ())) fun (y : Bool × Unit) => bif Prod.fst y then some (7, ()) else bif decide (Prod.fst t0 > Prod.fst (Prod.snd t0)) then some (2, ()) else some (0, ()) := by kernel_rfl
noncomputable def F81 : denL [tSp, (.int .i64), (.int .i64)] → Option (denL [(.int .i64)]) := ghost cx84 S81 6000 81 [tSp, (.int .i64), (.int .i64)] [(.int .i64)]
noncomputable def C81 : Con := ⟨[tSp, (.int .i64), (.int .i64)], [(.int .i64)], F81⟩
noncomputable def cx81 : Ctx := cx84.add 81 C81
def S17 : List Gh.Spec := [{ key := (4, 79, 4, 1), frs := [{ fn := 79, n := 34, regs := [(3, (.fn 80 [] [])), (19, (.dat (.slice tSp))), (20, (.dat (.int .i64))), (21, (.dat (.int .i64)))], round := none, defers := [] }, { fn := 17, n := 32, regs := [(1, (.ptr 170001 [])), (7, (.dat (.slice tSp)))], round := none, defers := [] }], heap := [(170001, .box (.dat tSe) false)] }, { key := (7, 82, 4, 1), frs := [{ fn := 82, n := 34, regs := [(3, (.fn 83 [] [(.ptr 170001 [])])), (19, (.dat (.slice tSm))), (20, (.dat (.int .i64))), (21, (.dat (.int .i64)))], round := none, defers := [] }, { fn := 17, n := 32, regs := [(1, (.ptr 170001 [])), (17, (.dat (.slice tSm))), (18, (.fn 83 [] [(.ptr 170001 [])]))], round := none, defers := [] }], heap := [(170001, .box (.dat tSe) false)] }]
noncomputable def K17_0 : Kept := { todos := [[.inLoop (cAt Tryd.f79 [1, 1, 0, 1, 0, 0]), .inBlock 0, .code (cAt Tryd.f79 [1, 1, 1])], [.inRegion (oAt Tryd.f17 [1, 0]) [2, 3, 4, 5, 6, 7], .code (cAt Tryd.f17 [1, 1])]], cs := [noCodes] }
noncomputable def K17_1 : Kept := { todos := [[.inLoop (cAt Tryd.f82 [1, 1, 0, 1, 0, 0]), .inBlock 0, .code (cAt Tryd.f82 [1, 1, 1])], [.inRegion (oAt Tryd.f17 [1, 1, 1, 0]) [3, 4, 5, 6, 7, 8], .code (cAt Tryd.f17 [1, 1, 1, 1])]], cs := [noCodes] }
theorem E17 (G : (n : Nat) → Kept → denK (specAt S17 n) → Option (denL [(.int .i64), (.int .i64), (.int .i64)])) (t0 : Se) : enter cx81 S17 [(.int .i64), (.int .i64), (.int .i64)] 6000 some G 17 [tSe] (t0, ()) =
  Option.bind (F84 (3, 7, List.set (List.replicate 1 0) 0 (↑(List.length (Prod.fst t0)) : Int), ())) fun (y : Bool × Unit) => bif Prod.fst y then some (1, 0, 3, ()) else G 0 K17_0 (((((), ()), Prod.fst t0, (↑(List.length (Prod.fst t0)) : Int), 0, ()), ((), Prod.fst t0, ()), ()), t0, ()) := by kernel_rfl
theorem Q17_0 (G : (n : Nat) → Kept → denK (specAt S17 n) → Option (denL [(.int .i64), (.int .i64), (.int .i64)])) (t19 : (List Sp)) (t20 : Int) (t21 : Int) (u7 : (List Sp)) (h0 : Se) : seg cx81 S17 [(.int .i64), (.int .i64), (.int .i64)] 6000 some G 0 K17_0 (((((), ()), (t19, (t20, (t21, ())))), (((), (u7, ())), ())), (h0, ())) =
  bif decide (t21 < t20) then
 bif decide (0 ≤ t21) && decide (t21 < (↑(List.length t19) : Int)) then
  Option.bind (F81 (List.getD t19 (Int.toNat t21) (0, 0, ()), 0, 99, ())) fun (y : Int × Unit) =>
   bif Prod.fst y != 0 then
    bif Prod.fst y != 0 then
     bif Prod.fst y != 0 then some (1, t21, Prod.fst y, ())
     else Option.bind (F84 (0, 4, List.set (List.replicate 1 0) 0 (↑(List.length (Prod.fst (Prod.snd h0))) : Int), ())) fun (y : Bool × Unit) => bif Prod.fst y then some (2, 0, 3, ()) else G 1 K17_1 (((((), (), ()), Prod.fst (Prod.snd h0), (↑(List.length (Prod.fst (Prod.snd h0))) : Int), 0, ()), ((), Prod.fst (Prod.snd h0), ((), (), ()), ()), ()), h0, ())
    else G 0 K17_0 (((((), ()), t19, t20, IntKind.wrap IntKind.i64 (t21 + 1), ()), ((), u7, ()), ()), h0, ())
   else bif decide (IntKind.wrap IntKind.i64 (Prod.fst (Prod.snd (List.getD t19 (Int.toNat t21) (0, 0, ()))) - Prod.fst (List.getD t19 (Int.toNat t21) (0, 0, ()))) > 3) then some (1, t21, 2, ()) else G 0 K17_0 (((((), ()), t19, t20, IntKind.wrap IntKind.i64 (t21 + 1), ()), ((), u7, ()), ()), h0, ())
 else none
 else Option.bind (F84 (0, 4, List.set (List.replicate 1 0) 0 (↑(List.length (Prod.fst (Prod.snd h0))) : Int), ())) fun (y : Bool × Unit) => bif Prod.fst y then some (2, 0, 3, ()) else G 1 K17_1 (((((), (), ()), Prod.fst (Prod.snd h0), (↑(List.length (Prod.fst (Prod.snd h0))) : Int), 0, ()), ((), Prod.fst (Prod.snd h0), ((), (), ()), ()), ()), h0, ()) := by kernel_rfl
theorem Q17_1 (G : (n : Nat) → Kept → denK (specAt S17 n) → Option (denL [(.int .i64), (.int .i64), (.int .i64)])) (t19 : (List Sm)) (t20 : Int) (t21 : Int) (u17 : (List Sm)) (h0 : Se) : seg cx81 S17 [(.int .i64), (.int .i64), (.int .i64)] 6000 some G 1 K17_1 (((((), ((), ())), (t19, (t20, (t21, ())))), (((), (u17, (((), ((), ())), ()))), ())), (h0, ())) =
  bif decide (t21 < t20) then
 bif decide (0 ≤ t21) && decide (t21 < (↑(List.length t19) : Int)) then
  Option.bind (F84 (0, IntKind.wrap IntKind.i64 ((↑(List.length (Prod.fst h0)) : Int) - 1), List.set (List.set (List.replicate 2 0) 0 (Prod.fst (List.getD t19 (Int.toNat t21) (0, 0, (0, 0, ()), ())))) 1 (Prod.fst (Prod.snd (List.getD t19 (Int.toNat t21) (0, 0, (0, 0, ()), ())))), ())) fun (y : Bool × Unit) =>
   bif Prod.fst y then some (2, t21, 4, ())
   else
    Option.bind (F81 (Prod.fst (Prod.snd (Prod.snd (List.getD t19 (Int.toNat t21) (0, 0, (0, 0, ()), ())))), 0, 999, ())) fun (y : Int × Unit) =>
     bif Prod.fst y != 0 then
      bif Prod.fst y != 0 then bif Prod.fst y != 0 then some (2, t21, Prod.fst y, ()) else Option.bind (F81 (Prod.fst (Prod.snd (Prod.snd h0)), 2, 7, ())) fun (y : Int × Unit) => bif Prod.fst y != 0 then some (3, 0, Prod.fst y, ()) else some (0, 0, 0, ()) else G 1 K17_1 (((((), (), ()), t19, t20, IntKind.wrap IntKind.i64 (t21 + 1), ()), ((), u17, ((), (), ()), ()), ()), h0, ())
     else bif decide (Prod.fst (List.getD t19 (Int.toNat t21) (0, 0, (0, 0, ()), ())) > Prod.fst (Prod.snd (List.getD t19 (Int.toNat t21) (0, 0, (0, 0, ()), ())))) then some (2, t21, 2, ()) else G 1 K17_1 (((((), (), ()), t19, t20, IntKind.wrap IntKind.i64 (t21 + 1), ()), ((), u17, ((), (), ()), ()), ()), h0, ())
 else none
 else Option.bind (F81 (Prod.fst (Prod.snd (Prod.snd h0)), 2, 7, ())) fun (y : Int × Unit) => bif Prod.fst y != 0 then some (3, 0, Prod.fst y, ()) else some (0, 0, 0, ()) := by kernel_rfl
noncomputable def F17 : denL [tSe] → Option (denL [(.int .i64), (.int .i64), (.int .i64)]) := ghost cx81 S17 6000 17 [tSe] [(.int .i64), (.int .i64), (.int .i64)]
noncomputable def C17 : Con := ⟨[tSe], [(.int .i64), (.int .i64), (.int .i64)], F17⟩
noncomputable def cx17 : Ctx := cx81.add 17 C17
def S96 : List Gh.Spec := [{ key := (0, 96, 4, 1), frs := [{ fn := 96, n := 54, regs := [(0, (.dat (.hnd 0 (.struct [tSe, (.int .i64)])))), (3, (.ptr 960003 [])), (5, (.dat (.int .i64))), (7, (.dat (.int .i64)))], round := none, defers := [] }], heap := [(960003, .box (.dat (.arr 7 (.int .i64))) false)] }]
noncomputable def K96_0 : Kept := { todos := [[.inLoop (cAt Tryd.f96 [1, 1, 0, 1, 0, 0, 1, 0, 0]), .inBlock 0, .code (cAt Tryd.f96 [1, 1, 0, 1, 0, 1]), .code (cAt Tryd.f96 [1, 1, 1])]], cs := [noCodes] }
theorem E96 (G : (n : Nat) → Kept → denK (specAt S96 n) → Option (denL [(.int .i64)])) (t0 : (Option Sb)) (t1 : (List Int)) : enter cx17 S96 [(.int .i64)] 6000 some G 96 [(.hnd 0 (.struct [tSe, (.int .i64)])), (.arr 7 (.int .i64))] (t0, (t1, ())) =
  Option.bind t0 fun (y : Sb) => dem (G 0 K96_0 (((t0, (), 0, 1, ()), ()), t1, ())) (some ((↑(topsP (List.length (Prod.fst (Prod.fst y))) t1) : Int), ())) := by kernel_rfl
theorem Q96_0 (G : (n : Nat) → Kept → denK (specAt S96 n) → Option (denL [(.int .i64)])) (t0 : (Option Sb)) (t5 : Int) (t7 : Int) (h0 : (List Int)) : seg cx17 S96 [(.int .i64)] 6000 some G 0 K96_0 (((t0, ((), (t5, (t7, ())))), ()), (h0, ())) =
  Option.bind t0 fun (y : Sb) =>
 bif decide (IntKind.wrap IntKind.i64 (t7 + 1) < (↑(List.length (Prod.fst (Prod.fst y))) : Int)) then
  bif decide (0 ≤ t7) && decide (t7 < 7) then
   bif decide (Int.toNat t7 < 7) then
    bif decide (0 ≤ IntKind.wrap IntKind.i64 (t7 - 1)) && decide (IntKind.wrap IntKind.i64 (t7 - 1) < 7) then
     bif decide (Int.toNat (IntKind.wrap IntKind.i64 (t7 - 1)) < 7) then
      bif decide (0 ≤ IntKind.wrap IntKind.i64 (t7 + 1)) && decide (IntKind.wrap IntKind.i64 (t7 + 1) < 7) then
       bif decide (Int.toNat (IntKind.wrap IntKind.i64 (t7 + 1)) < 7) then
        bif decide (List.getD h0 (Int.toNat t7) 0 > if List.getD h0 (Int.toNat (IntKind.wrap IntKind.i64 (t7 + 1))) 0 > List.getD h0 (Int.toNat (IntKind.wrap IntKind.i64 (t7 - 1))) 0 then List.getD h0 (Int.toNat (IntKind.wrap IntKind.i64 (t7 + 1))) 0 else List.getD h0 (Int.toNat (IntKind.wrap IntKind.i64 (t7 - 1))) 0) then
         bif decide (t7 < 0) then none else G 0 K96_0 (((t0, (), bitF BinOp.or IntKind.i64 t5 (IntKind.wrap IntKind.i64 (1 * 2 ^ min (Int.toNat t7) 64)), IntKind.wrap IntKind.i64 (t7 + 1), ()), ()), h0, ())
        else G 0 K96_0 (((t0, (), t5, IntKind.wrap IntKind.i64 (t7 + 1), ()), ()), h0, ())
       else none
      else none
     else none
    else none
   else none
  else none
 else Option.bind t0 fun (y : Sb) => guardP (Memo.f (Memo.mk 144 [tSe, Ty.int IntKind.i64] 142 (Ty.arr 7 (Ty.int IntKind.i64)) (Ty.int IntKind.i64) topsF) y h0 = some t5) (some (t5, ())) := by kernel_rfl
noncomputable def F96 : denL [(.hnd 0 (.struct [tSe, (.int .i64)])), (.arr 7 (.int .i64))] → Option (denL [(.int .i64)]) := ghost cx17 S96 6000 96 [(.hnd 0 (.struct [tSe, (.int .i64)])), (.arr 7 (.int .i64))] [(.int .i64)]
noncomputable def C96 : Con := ⟨[(.hnd 0 (.struct [tSe, (.int .i64)])), (.arr 7 (.int .i64))], [(.int .i64)], F96⟩
noncomputable def cx96 : Ctx := cx17.add 96 C96
def S104 : List Gh.Spec := [{ key := (0, 104, 4, 1), frs := [{ fn := 104, n := 31, regs := [(0, (.dat (.int .i64))), (5, (.row 1040009)), (6, (.dat (.int .i64))), (10, (.dat (.int .i64))), (11, (.dat (.int .i64)))], round := none, defers := [] }], heap := [(1040009, .row (.int .i64) false)] }, { key := (99999, 0, 0, 0), frs := [], heap := [] }]
noncomputable def K104_0 : Kept := { todos := [[.inLoop (cAt Tryd.f104 [1, 1, 1, 0, 1, 0, 0]), .inBlock 0, .code (cAt Tryd.f104 [1, 1, 1, 1])]], cs := [noCodes] }
theorem E104 (G : (n : Nat) → Kept → denK (specAt S104 n) → Option (denL [(.slice (.int .i64))])) (t0 : Int) (t1 : Int) : enter cx96 S104 [(.slice (.int .i64))] 6000 some G 104 [(.int .i64), (.int .i64)] (t0, (t1, ())) =
  bif decide (0 ≤ t1) && decide (t1 ≤ 2147483648) && decide (t1 = t1) then G 0 K104_0 (((t0, (), 0, t1, 0, ()), ()), List.replicate (Int.toNat t1) 0, ()) else none := by kernel_rfl
theorem Q104_0 (G : (n : Nat) → Kept → denK (specAt S104 n) → Option (denL [(.slice (.int .i64))])) (t0 : Int) (t6 : Int) (t10 : Int) (t11 : Int) (h0 : (List Int)) : seg cx96 S104 [(.slice (.int .i64))] 6000 some G 0 K104_0 (((t0, ((), (t6, (t10, (t11, ()))))), ()), (h0, ())) =
  bif decide (t11 < t10) then
 bif decide (t11 < 0) then none
 else
  bif bitF BinOp.and IntKind.i64 (Int.fdiv t0 (2 ^ min (Int.toNat t11) 64)) 1 == 1 then
   bif decide (0 ≤ t6) && decide (t6 ≤ (↑(List.length h0) : Int)) then
    G 0 K104_0
     (((t0, (), IntKind.wrap IntKind.i64 (t6 + (↑(min (List.length (List.set (List.replicate 1 0) 0 t11)) (List.length h0 - Int.toNat t6)) : Int)), t10, IntKind.wrap IntKind.i64 (t11 + 1), ()), ()),
       List.take (Int.toNat t6) h0 ++ List.take (min (List.length (List.set (List.replicate 1 0) 0 t11)) (List.length h0 - Int.toNat t6)) (List.set (List.replicate 1 0) 0 t11) ++ List.drop (Int.toNat t6 + min (List.length (List.set (List.replicate 1 0) 0 t11)) (List.length h0 - Int.toNat t6)) h0, ())
   else none
  else G 0 K104_0 (((t0, (), t6, t10, IntKind.wrap IntKind.i64 (t11 + 1), ()), ()), h0, ())
 else bif decide (0 ≤ t6) && decide (t6 ≤ (↑(List.length h0) : Int)) then some (List.take (Int.toNat t6) h0, ()) else none := by kernel_rfl
noncomputable def F104 : denL [(.int .i64), (.int .i64)] → Option (denL [(.slice (.int .i64))]) := ghost cx96 S104 6000 104 [(.int .i64), (.int .i64)] [(.slice (.int .i64))]
noncomputable def C104 : Con := ⟨[(.int .i64), (.int .i64)], [(.slice (.int .i64))], F104⟩
noncomputable def cx104 : Ctx := (cx96.add 104 C104).addF 104 C104
def S100 : List Gh.Spec := []
theorem E100 (G : (n : Nat) → Kept → denK (specAt S100 n) → Option (denL [tSp])) (t0 : Sp) (t1 : Int) : enter cx104 S100 [tSp] 6000 some G 100 [tSp, (.int .i64)] (t0, (t1, ())) =
  some ((if t1 < Prod.fst t0 then t1 else Prod.fst t0, if t1 > Prod.fst (Prod.snd t0) then t1 else Prod.fst (Prod.snd t0), ()), ()) := by kernel_rfl
noncomputable def F100 : denL [tSp, (.int .i64)] → Option (denL [tSp]) := ghost cx104 S100 6000 100 [tSp, (.int .i64)] [tSp]
noncomputable def C100 : Con := ⟨[tSp, (.int .i64)], [tSp], F100⟩
noncomputable def cx100 : Ctx := cx104.add 100 C100
def S101 : List Gh.Spec := []
theorem E101 (G : (n : Nat) → Kept → denK (specAt S101 n) → Option (denL [tSp, (.int .i64)])) (t0 : Sp) : enter cx100 S101 [tSp, (.int .i64)] 6000 some G 101 [tSp] (t0, ()) =
  bif eqD (Ty.struct [Ty.int IntKind.i64, Ty.int IntKind.i64]) t0 (1099511627776, -1, ()) then some ((0, 0, ()), 9, ()) else some (t0, 0, ()) := by kernel_rfl
noncomputable def F101 : denL [tSp] → Option (denL [tSp, (.int .i64)]) := ghost cx100 S101 6000 101 [tSp] [tSp, (.int .i64)]
noncomputable def C101 : Con := ⟨[tSp], [tSp, (.int .i64)], F101⟩
noncomputable def cx101 : Ctx := cx100.add 101 C101
def S97 : List Gh.Spec := []
theorem E97 (G : (n : Nat) → Kept → denK (specAt S97 n) → Option (denL [(.int .i64)])) (t0 : Int) (t1 : Int) : enter cx101 S97 [(.int .i64)] 6000 some G 97 [(.int .i64), (.int .i64)] (t0, (t1, ())) =
  bif t0 == t1 then some (1, ()) else bif t0 == 0 then some (2, ()) else some (0, ()) := by kernel_rfl
noncomputable def F97 : denL [(.int .i64), (.int .i64)] → Option (denL [(.int .i64)]) := ghost cx101 S97 6000 97 [(.int .i64), (.int .i64)] [(.int .i64)]
noncomputable def C97 : Con := ⟨[(.int .i64), (.int .i64)], [(.int .i64)], F97⟩
noncomputable def cx97 : Ctx := cx101.add 97 C97
def S93 : List Gh.Spec := [{ key := (0, 93, 2, 1), frs := [{ fn := 93, n := 22, regs := [(0, (.dat (.int .i64))), (1, (.dat (.int .i64))), (4, (.ptr 930004 [])), (5, (.dat (.int .i64))), (6, (.dat (.int .i64)))], round := none, defers := [] }], heap := [(930004, .box (.dat tSp) false)] }]
noncomputable def K93_0 : Kept := { todos := [[.inLoop (cAt Tryd.f93 [1, 1, 0, 0, 0]), .inBlock 0, .code (cAt Tryd.f93 [1, 1, 1])]], cs := [noCodes] }
theorem E93 (G : (n : Nat) → Kept → denK (specAt S93 n) → Option (denL [tSp])) (t0 : Int) (t1 : Int) : enter cx97 S93 [tSp] 6000 some G 93 [(.int .i64), (.int .i64)] (t0, (t1, ())) =
  G 0 K93_0 (((t0, t1, (), t0, t1, ()), ()), (0, 0, ()), ()) := by kernel_rfl
theorem Q93_0 (G : (n : Nat) → Kept → denK (specAt S93 n) → Option (denL [tSp])) (t0 : Int) (t1 : Int) (t5 : Int) (t6 : Int) (h0 : Sp) : seg cx97 S93 [tSp] 6000 some G 0 K93_0 (((t0, (t1, ((), (t5, (t6, ()))))), ()), (h0, ())) =
  bif t6 != 0 then bif decide (t6 = 0) then none else G 0 K93_0 (((t0, t1, (), t6, Int.tmod t5 t6, ()), ()), h0, ()) else bif decide (t5 = 0) then none else bif decide (t5 = 0) then none else some ((IntKind.wrap IntKind.i64 (Int.tdiv t0 t5), IntKind.wrap IntKind.i64 (Int.tdiv t1 t5), ()), ()) := by kernel_rfl
noncomputable def F93 : denL [(.int .i64), (.int .i64)] → Option (denL [tSp]) := ghost cx97 S93 6000 93 [(.int .i64), (.int .i64)] [tSp]
noncomputable def C93 : Con := ⟨[(.int .i64), (.int .i64)], [tSp], F93⟩
noncomputable def cx93 : Ctx := cx97.add 93 C93
def S131 : List Gh.Spec := []
theorem E131 (G : (n : Nat) → Kept → denK (specAt S131 n) → Option (denL [.bool])) (t0 : Int) : enter cx93 S131 [.bool] 6000 some G 131 [(.int .i64)] (t0, ()) =
  some (t0 != t0, ()) := by kernel_rfl
noncomputable def F131 : denL [(.int .i64)] → Option (denL [.bool]) := ghost cx93 S131 6000 131 [(.int .i64)] [.bool]
noncomputable def C131 : Con := ⟨[(.int .i64)], [.bool], F131⟩
noncomputable def cx131 : Ctx := cx93.add 131 C131
def S127 : List Gh.Spec := []
theorem E127 (G : (n : Nat) → Kept → denK (specAt S127 n) → Option (denL [(.int .i64)])) (t0 : Int) (t1 : Int) : enter cx131 S127 [(.int .i64)] 6000 some G 127 [(.int .i64), (.int .i64)] (t0, (t1, ())) =
  Option.bind (F131 (t0, ())) fun (y : Bool × Unit) => Option.bind (F131 (t1, ())) fun (y_1 : Bool × Unit) => bif Prod.fst y then bif Prod.fst y_1 then some (0, ()) else some (-1, ()) else bif Prod.fst y_1 then some (1, ()) else bif decide (t0 < t1) then some (-1, ()) else bif decide (t0 > t1) then some (1, ()) else some (0, ()) := by kernel_rfl
noncomputable def F127 : denL [(.int .i64), (.int .i64)] → Option (denL [(.int .i64)]) := ghost cx131 S127 6000 127 [(.int .i64), (.int .i64)] [(.int .i64)]
noncomputable def C127 : Con := ⟨[(.int .i64), (.int .i64)], [(.int .i64)], F127⟩
noncomputable def cx127 : Ctx := cx131.add 127 C127
def S105 : List Gh.Spec := [{ key := (0, 105, 2, 1), frs := [{ fn := 105, n := 36, regs := [(0, (.dat (.slice (.int .i64)))), (1, (.dat (.slice (.int .i64)))), (9, (.dat (.slice (.int .i64)))), (10, (.dat (.int .i64))), (11, (.dat (.int .i64)))], round := none, defers := [] }], heap := [] }]
noncomputable def K105_0 : Kept := { todos := [[.inLoop (cAt Tryd.f105 [1, 0, 1, 0, 0]), .inBlock 0, .code (cAt Tryd.f105 [1, 1])]], cs := [] }
theorem E105 (G : (n : Nat) → Kept → denK (specAt S105 n) → Option (denL [(.int .i64)])) (t0 : (List Int)) (t1 : (List Int)) : enter cx127 S105 [(.int .i64)] 6000 some G 105 [(.slice (.int .i64)), (.slice (.int .i64))] (t0, (t1, ())) =
  G 0 K105_0 (((t0, t1, t0, (↑(List.length t0) : Int), 0, ()), ()), ()) := by kernel_rfl
theorem Q105_0 (G : (n : Nat) → Kept → denK (specAt S105 n) → Option (denL [(.int .i64)])) (t0 : (List Int)) (t1 : (List Int)) (t9 : (List Int)) (t10 : Int) (t11 : Int) : seg cx127 S105 [(.int .i64)] 6000 some G 0 K105_0 (((t0, (t1, (t9, (t10, (t11, ()))))), ()), ()) =
  bif decide (t11 < t10) then
 bif decide (0 ≤ t11) && decide (t11 < (↑(List.length t9) : Int)) then
  bif decide (t11 ≥ (↑(List.length t1) : Int)) then some (1, ()) else bif decide (0 ≤ t11) && decide (t11 < (↑(List.length t1) : Int)) then Option.bind (F127 (List.getD t9 (Int.toNat t11) 0, List.getD t1 (Int.toNat t11) 0, ())) fun (y : Int × Unit) => bif Prod.fst y != 0 then some (Prod.fst y, ()) else G 0 K105_0 (((t0, t1, t9, t10, IntKind.wrap IntKind.i64 (t11 + 1), ()), ()), ()) else none
 else none
 else bif decide ((↑(List.length t0) : Int) < (↑(List.length t1) : Int)) then some (-1, ()) else some (0, ()) := by kernel_rfl
noncomputable def F105 : denL [(.slice (.int .i64)), (.slice (.int .i64))] → Option (denL [(.int .i64)]) := ghost cx127 S105 6000 105 [(.slice (.int .i64)), (.slice (.int .i64))] [(.int .i64)]
noncomputable def C105 : Con := ⟨[(.slice (.int .i64)), (.slice (.int .i64))], [(.int .i64)], F105⟩
noncomputable def cx105 : Ctx := cx127.add 105 C105
def S106 : List Gh.Spec := []
theorem E106 (G : (n : Nat) → Kept → denK (specAt S106 n) → Option (denL [(.hnd 0 (.struct [tSe, (.int .i64)]))])) (t0 : Se) (t1 : Int) : enter cx105 S106 [(.hnd 0 (.struct [tSe, (.int .i64)]))] 6000 some G 106 [tSe, (.int .i64)] (t0, (t1, ())) =
  guardP (some (t0, t1, ()) = some (t0, t1, ())) (some (some (t0, t1, ()), ())) := by kernel_rfl
noncomputable def F106 : denL [tSe, (.int .i64)] → Option (denL [(.hnd 0 (.struct [tSe, (.int .i64)]))]) := ghost cx105 S106 6000 106 [tSe, (.int .i64)] [(.hnd 0 (.struct [tSe, (.int .i64)]))]
noncomputable def C106 : Con := ⟨[tSe, (.int .i64)], [(.hnd 0 (.struct [tSe, (.int .i64)]))], F106⟩
noncomputable def cx106 : Ctx := cx105.add 106 C106
def S120 : List Gh.Spec := [{ key := (0, 120, 2, 1), frs := [{ fn := 120, n := 25, regs := [(6, (.dat (.int .i64))), (14, (.dat (.slice (.int .i64)))), (15, (.dat (.int .i64))), (16, (.dat (.int .i64)))], round := none, defers := [] }], heap := [] }]
noncomputable def K120_0 : Kept := { todos := [[.inLoop (cAt Tryd.f120 [1, 0, 1, 0, 0]), .inBlock 0, .code (cAt Tryd.f120 [1, 1])]], cs := [] }
theorem E120 (G : (n : Nat) → Kept → denK (specAt S120 n) → Option (denL [(.int .i64)])) (t0 : (List Int)) (t1 : Int) (t2 : Int) : enterR cx106 S120 [(.int .i64)] 6000 some G 120 [true, false, false] [(.arr 7 (.int .i64)), (.int .i64), (.int .i64)] (t0, (t1, (t2, ()))) =
  bif decide (0 ≤ t1) && decide (t1 ≤ IntKind.wrap IntKind.i64 (t2 + 1)) && decide (IntKind.wrap IntKind.i64 (t2 + 1) ≤ 7) then G 0 K120_0 (((0, List.take (Int.toNat (IntKind.wrap IntKind.i64 (t2 + 1) - t1)) (List.drop (Int.toNat t1) t0), (↑(List.length (List.take (Int.toNat (IntKind.wrap IntKind.i64 (t2 + 1) - t1)) (List.drop (Int.toNat t1) t0))) : Int), 0, ()), ()), ()) else none := by kernel_rfl
theorem Q120_0 (G : (n : Nat) → Kept → denK (specAt S120 n) → Option (denL [(.int .i64)])) (t6 : Int) (t14 : (List Int)) (t15 : Int) (t16 : Int) : seg cx106 S120 [(.int .i64)] 6000 some G 0 K120_0 (((t6, (t14, (t15, (t16, ())))), ()), ()) =
  bif decide (t16 < t15) then bif decide (0 ≤ t16) && decide (t16 < (↑(List.length t14) : Int)) then G 0 K120_0 (((IntKind.wrap IntKind.i64 (t6 + List.getD t14 (Int.toNat t16) 0), t14, t15, IntKind.wrap IntKind.i64 (t16 + 1), ()), ()), ()) else none else some (t6, ()) := by kernel_rfl
noncomputable def F120 : denL [(.arr 7 (.int .i64)), (.int .i64), (.int .i64)] → Option (denL [(.int .i64)]) := ghostR cx106 S120 6000 120 [true, false, false] [(.arr 7 (.int .i64)), (.int .i64), (.int .i64)] [(.int .i64)]
noncomputable def C120 : RCon := ⟨[true, false, false], [(.arr 7 (.int .i64)), (.int .i64), (.int .i64)], [(.int .i64)], F120⟩
noncomputable def cx120 : Ctx := cx106.addR 120 C120
end Go.Proofs.YtkbephbhajplhaaDoor
/- What the ghost comes to: is there a truth. Conditions: none (equations, each by computation). -/
namespace Go.Proofs.YtkbephbhajplhaaDoor
open Go Go.Gh Go.Proofs
def O107s122 : List (Nat × BSh) := [(1070002, .box (.dat .bool) false), (1079002, .loopE 107 6 [(2, (.ptr 1070002 []))] [5] 0 [0, 1]), (10950001, .box (.dat (.hnd 0 (.struct [tSe, (.int .i64)]))) false), (11210002, .box (.yld 1079002) false), (11210003, .box (.fn 96 [(.dat (.hnd 0 (.struct [tSe, (.int .i64)])))] []) false), (11210004, .box (.dat (.arr 7 (.int .i64))) false), (11210005, .box (.dat (.arr 7 (.int .i64))) false), (11210006, .box (.fn 122 [] [(.ptr 10950001 []), (.ptr 11210004 []), (.ptr 11210006 []), (.ptr 11210005 []), (.ptr 11210003 []), (.ptr 11210002 [])]) false)]
noncomputable def Y107s122 : List (Code × Code) := [noCodes, ((cAt Tryd.f107 [1, 0, 1, 0, 0]), (cAt Tryd.f107 [1, 0, 1, 0, 1])), noCodes, noCodes, noCodes, noCodes, noCodes, noCodes]
def S107s122 : List Gh.Spec := [{ key := (0, 0, 0, 0), frs := [{ fn := 122, n := 119, regs := [(0, (.dat (.int .i64))), (1, (.ptr 10950001 [])), (2, (.ptr 11210004 [])), (3, (.ptr 11210006 [])), (4, (.ptr 11210005 [])), (5, (.ptr 11210003 [])), (6, (.ptr 11210002 []))], round := none, defers := [] }], heap := [(1070002, .box (.dat .bool) false), (1079002, .loop 107 6 [(2, (.ptr 1070002 []))] [5] 0 false), (10950001, .box (.dat (.hnd 0 (.struct [tSe, (.int .i64)]))) false), (11210002, .box (.yld 1079002) false), (11210003, .box (.fn 96 [(.dat (.hnd 0 (.struct [tSe, (.int .i64)])))] []) false), (11210004, .box (.dat (.arr 7 (.int .i64))) false), (11210005, .box (.dat (.arr 7 (.int .i64))) false), (11210006, .box (.fn 122 [] [(.ptr 10950001 []), (.ptr 11210004 []), (.ptr 11210006 []), (.ptr 11210005 []), (.ptr 11210003 []), (.ptr 11210002 [])]) false)], base := 20 }, { key := (123194000000000000004804566, 122, 3, 1), frs := [{ fn := 122, n := 119, regs := [(0, (.dat (.int .i64))), (1, (.ptr 10950001 [])), (2, (.ptr 11210004 [])), (3, (.ptr 11210006 [])), (8, (.ptr 201220008 [])), (9, (.dat (.int .i64)))], round := none, defers := [] }], heap := [(1070002, .box (.dat .bool) false), (1079002, .loop 107 6 [(2, (.ptr 1070002 []))] [5] 0 false), (10950001, .box (.dat (.hnd 0 (.struct [tSe, (.int .i64)]))) false), (11210002, .box (.yld 1079002) false), (11210003, .box (.fn 96 [(.dat (.hnd 0 (.struct [tSe, (.int .i64)])))] []) false), (11210004, .box (.dat (.arr 7 (.int .i64))) false), (11210005, .box (.dat (.arr 7 (.int .i64))) false), (11210006, .box (.fn 122 [] [(.ptr 10950001 []), (.ptr 11210004 []), (.ptr 11210006 []), (.ptr 11210005 []), (.ptr 11210003 []), (.ptr 11210002 [])]) false), (201220008, .box (.dat .bool) false)], base := 20 }, { key := (123194000000000000004804589, 123, 2, 1), frs := [{ fn := 123, n := 32, regs := [(0, (.yld 201229019)), (2, (.ptr 210990003 [])), (4, (.dat (.int .i64))), (11, (.dat (.int .i64))), (12, (.dat (.int .i64)))], round := none, defers := [] }, { fn := 122, n := 119, regs := [(2, (.ptr 11210004 [])), (6, (.ptr 11210002 [])), (8, (.ptr 201220008 []))], round := none, defers := [] }], heap := [(1070002, .box (.dat .bool) false), (1079002, .loop 107 6 [(2, (.ptr 1070002 []))] [5] 0 false), (10950001, .box (.dat (.hnd 0 (.struct [tSe, (.int .i64)]))) false), (11210002, .box (.yld 1079002) false), (11210003, .box (.fn 96 [(.dat (.hnd 0 (.struct [tSe, (.int .i64)])))] []) false), (11210004, .box (.dat (.arr 7 (.int .i64))) false), (11210005, .box (.dat (.arr 7 (.int .i64))) false), (11210006, .box (.fn 122 [] [(.ptr 10950001 []), (.ptr 11210004 []), (.ptr 11210006 []), (.ptr 11210005 []), (.ptr 11210003 []), (.ptr 11210002 [])]) false), (201220008, .box (.dat .bool) false), (201229019, .loop 122 119 [(1, (.ptr 10950001 [])), (8, (.ptr 201220008 []))] [100] 0 false), (210990003, .box (.dat (.int .i64)) false)], base := 20 }, { key := (123194000000000000004804566, 122, 7, 1), frs := [{ fn := 122, n := 119, regs := [(0, (.dat (.int .i64))), (1, (.ptr 10950001 [])), (2, (.ptr 11210004 [])), (3, (.ptr 11210006 [])), (8, (.ptr 201220008 [])), (9, (.dat (.int .i64))), (50, (.dat (.slice tSm))), (51, (.dat (.int .i64))), (52, (.dat (.int .i64)))], round := none, defers := [] }], heap := [(1070002, .box (.dat .bool) false), (1079002, .loop 107 6 [(2, (.ptr 1070002 []))] [5] 0 false), (10950001, .box (.dat (.hnd 0 (.struct [tSe, (.int .i64)]))) false), (11210002, .box (.yld 1079002) false), (11210003, .box (.fn 96 [(.dat (.hnd 0 (.struct [tSe, (.int .i64)])))] []) false), (11210004, .box (.dat (.arr 7 (.int .i64))) false), (11210005, .box (.dat (.arr 7 (.int .i64))) false), (11210006, .box (.fn 122 [] [(.ptr 10950001 []), (.ptr 11210004 []), (.ptr 11210006 []), (.ptr 11210005 []), (.ptr 11210003 []), (.ptr 11210002 [])]) false), (201220008, .box (.dat .bool) false)], base := 20 }]
noncomputable def K107s122_0 : Kept := kept0 (cAt Tryd.f122 []) Y107s122
noncomputable def K107s122_1 : Kept := { todos := [[.inLoop (cAt Tryd.f122 [1, 0, 1, 0, 0, 1, 0, 1, 0, 0]), .inBlock 0, .code (cAt Tryd.f122 [1, 0, 1, 0, 0, 1, 1]), .inScope (cAt Tryd.f122 [1, 0, 1, 0, 0]), .code (cAt Tryd.f122 [1, 1])]], cs := [noCodes, ((cAt Tryd.f107 [1, 0, 1, 0, 0]), (cAt Tryd.f107 [1, 0, 1, 0, 1])), noCodes, noCodes, noCodes, noCodes, noCodes, noCodes, noCodes] }
noncomputable def K107s122_2 : Kept := { todos := [[.inLoop (cAt Tryd.f123 [1, 1, 0, 0]), .inBlock 0], [.inRangeFunc 201229019, .inBlock 4, .code (cAt Tryd.f122 [1, 1, 1, 1, 1])]], cs := [noCodes, ((cAt Tryd.f107 [1, 0, 1, 0, 0]), (cAt Tryd.f107 [1, 0, 1, 0, 1])), noCodes, noCodes, noCodes, noCodes, noCodes, noCodes, noCodes, ((cAt Tryd.f122 [1, 1, 1, 1, 0, 1, 0, 0]), (cAt Tryd.f122 [1, 1, 1, 1, 0, 1, 0, 1])), noCodes] }
noncomputable def K107s122_3 : Kept := { todos := [[.inLoop (cAt Tryd.f122 [1, 0, 1, 0, 0, 1, 0, 1, 0, 0, 1, 0, 0, 1, 0, 1, 0, 0]), .inBlock 2, .code (cAt Tryd.f122 [1, 0, 1, 0, 0, 1, 0, 1, 0, 0, 1, 0, 0, 1, 1]), .inBlock 1, .code (cAt Tryd.f122 [1, 0, 1, 0, 0, 1, 0, 1, 0, 0, 1, 1]), .inLoop (cAt Tryd.f122 [1, 0, 1, 0, 0, 1, 0, 1, 0, 0]), .inBlock 0, .code (cAt Tryd.f122 [1, 0, 1, 0, 0, 1, 1]), .inScope (cAt Tryd.f122 [1, 0, 1, 0, 0]), .code (cAt Tryd.f122 [1, 1])]], cs := [noCodes, ((cAt Tryd.f107 [1, 0, 1, 0, 0]), (cAt Tryd.f107 [1, 0, 1, 0, 1])), noCodes, noCodes, noCodes, noCodes, noCodes, noCodes, noCodes] }
noncomputable def X107s122 (f : List (Code × Code) → denK (specAt S107s122 0) → Option (denL [.bool] × denH O107s122)) : Ctx := (cx120).addS 122 (asSub S107s122 20 [.bool] O107s122 f)
abbrev GT107s122 : Type := (n : Nat) → Kept → denK (specAt S107s122 n) → Option (denL [.bool] × denH O107s122)
abbrev FT107s122 : Type := List (Code × Code) → denK (specAt S107s122 0) → Option (denL [.bool] × denH O107s122)
theorem Q107s122_0 (G : GT107s122) (f : FT107s122) (t0 : Int) (h0 : Bool) (h2 : (Option Sb)) (h4a_0 : (Option Sb)) (h5 : (List Int)) (h6 : (List Int)) : sseg (X107s122 f) S107s122 [.bool] O107s122 6000 some G 0 K107s122_0 (((t0, ((), ((), ((), ((), ((), ((), ()))))))), ()), (h0, (((), ()), (h2, ((), (((h4a_0, ()), ()), (h5, (h6, (u8, ()))))))))) =
  Option.bind h2 fun (y : Sb) =>
 bif decide (t0 < (↑(List.length (Prod.fst (Prod.fst y))) : Int)) then
  Option.bind h2 fun (y : Sb) =>
   bif decide (0 ≤ t0) && decide (t0 < (↑(List.length (Prod.fst (Prod.fst y))) : Int)) then G 1 K107s122_1 (((t0, (), (), (), (), Prod.fst (List.getD (Prod.fst (Prod.fst y)) (Int.toNat t0) (0, 0, ())), ()), ()), h0, ((), ()), h2, (), ((h4a_0, ()), ()), h5, h6, u8, false, ()) else none
 else
  bif eqD (Ty.arr 7 (Ty.int IntKind.i64)) h5 h6 then some ((true, ()), h0, (0, (), ()), h2, (), ((h4a_0, ()), ()), h5, h6, u8, ())
  else
   Option.bind (F96 (h4a_0, h5, ())) fun (y : Int × Unit) =>
    Option.bind h2 fun (y_1 : Sb) => G 2 K107s122_2 ((((), (), -1, (↑(List.length (Prod.fst (Prod.fst y_1))) : Int), 0, ()), ((), (), (), ()), ()), h0, ((), ()), h2, (), ((h4a_0, ()), ()), h5, h5, u8, false, ((), (), ()), Prod.fst y, ()) := by kernel_rfl
theorem Q107s122_1 (G : GT107s122) (f : FT107s122) (t0 : Int) (t9 : Int) (h0 : Bool) (h2 : (Option Sb)) (h4a_0 : (Option Sb)) (h5 : (List Int)) (h6 : (List Int)) (h8 : Bool) : sseg (X107s122 f) S107s122 [.bool] O107s122 6000 some G 1 K107s122_1 (((t0, ((), ((), ((), ((), (t9, ())))))), ()), (h0, (((), ()), (h2, ((), (((h4a_0, ()), ()), (h5, (h6, (u8, (h8, ())))))))))) =
  Option.bind h2 fun (y : Sb) =>
 bif decide (0 ≤ t0) && decide (t0 < (↑(List.length (Prod.fst (Prod.fst y))) : Int)) then
  bif decide (t9 ≤ Prod.fst (Prod.snd (List.getD (Prod.fst (Prod.fst y)) (Int.toNat t0) (0, 0, ())))) then
   bif decide (0 ≤ t0) && decide (t0 < 7) then
    bif decide (Int.toNat t0 < 7) then
     Option.bind h2 fun (y : Sb) =>
      G 3 K107s122_3 (((t0, (), (), (), (), t9, Prod.fst (Prod.snd (Prod.fst y)), (↑(List.length (Prod.fst (Prod.snd (Prod.fst y)))) : Int), 0, ()), ()), h0, ((), ()), h2, (), ((h4a_0, ()), ()), List.set h5 (Int.toNat t0) t9, h6, u8, h8, ())
    else none
   else none
  else some ((true, ()), h0, (0, (), ()), h2, (), ((h4a_0, ()), ()), h5, h6, u8, ())
 else none := by kernel_rfl
theorem Q107s122_2 (G : GT107s122) (f : FT107s122) (t4 : Int) (t11 : Int) (t12 : Int) (h0 : Bool) (h2 : (Option Sb)) (h4a_0 : (Option Sb)) (h5 : (List Int)) (h6 : (List Int)) (h8 : Bool) (h10 : Int) : sseg (X107s122 f) S107s122 [.bool] O107s122 6000 some G 2 K107s122_2 ((((), ((), (t4, (t11, (t12, ()))))), (((), ((), ((), ()))), ())), (h0, (((), ()), (h2, ((), (((h4a_0, ()), ()), (h5, (h6, (u8, (h8, (((), ((), ())), (h10, ())))))))))))) =
  bif decide (t12 < t11) then
 bif decide (t12 < 0) then none
 else
  bif bitF BinOp.and IntKind.i64 (Int.fdiv h10 (2 ^ min (Int.toNat t12) 64)) 1 == 0 then G 2 K107s122_2 ((((), (), t4, t11, IntKind.wrap IntKind.i64 (t12 + 1), ()), ((), (), (), ()), ()), h0, ((), ()), h2, (), ((h4a_0, ()), ()), h5, h6, u8, h8, ((), (), ()), h10, ())
  else
   bif decide (t4 ≥ 0) then
    Option.bind h2 fun (y : Sb) =>
     Option.bind h2 fun (y_1 : Sb) =>
      Option.bind (F84 (Prod.fst (Prod.fst (Prod.snd (Prod.snd (Prod.fst y)))), Prod.fst (Prod.snd (Prod.fst (Prod.snd (Prod.snd (Prod.fst y_1))))), List.set (List.replicate 1 0) 0 (IntKind.wrap IntKind.i64 (t12 - t4)), ())) fun (y : Bool × Unit) =>
       bif Prod.fst y then some ((true, ()), h0, (0, (), ()), h2, (), ((h4a_0, ()), ()), h5, h6, u8, ()) else G 2 K107s122_2 ((((), (), t12, t11, IntKind.wrap IntKind.i64 (t12 + 1), ()), ((), (), (), ()), ()), h0, ((), ()), h2, (), ((h4a_0, ()), ()), h5, h6, u8, h8, ((), (), ()), h10, ())
   else G 2 K107s122_2 ((((), (), t12, t11, IntKind.wrap IntKind.i64 (t12 + 1), ()), ((), (), (), ()), ()), h0, ((), ()), h2, (), ((h4a_0, ()), ()), h5, h6, u8, h8, ((), (), ()), h10, ())
 else some ((false, ()), true, (1, (), ()), h2, (), ((h4a_0, ()), ()), h5, h6, u8, ()) := by kernel_rfl
theorem Q107s122_3 (G : GT107s122) (f : FT107s122) (t0 : Int) (t9 : Int) (t50 : (List Sm)) (t51 : Int) (t52 : Int) (h0 : Bool) (h2 : (Option Sb)) (h4a_0 : (Option Sb)) (h5 : (List Int)) (h6 : (List Int)) (h8 : Bool) : sseg (X107s122 f) S107s122 [.bool] O107s122 6000 some G 3 K107s122_3 (((t0, ((), ((), ((), ((), (t9, (t50, (t51, (t52, ()))))))))), ()), (h0, (((), ()), (h2, ((), (((h4a_0, ()), ()), (h5, (h6, (u8, (h8, ())))))))))) =
  bif decide (t52 < t51) then
 bif decide (0 ≤ t52) && decide (t52 < (↑(List.length t50) : Int)) then
  bif Prod.fst (Prod.snd (List.getD t50 (Int.toNat t52) (0, 0, (0, 0, ()), ()))) == t0 then
   Option.bind h2 fun (y : Sb) =>
    bif decide (t52 < 0) then none
    else
     bif bitF BinOp.and IntKind.i64 (Int.fdiv (Prod.fst (Prod.snd y)) (2 ^ min (Int.toNat t52) 64)) 1 == 0 then
      Option.bind (F120 (h5, Prod.fst (List.getD t50 (Int.toNat t52) (0, 0, (0, 0, ()), ())), t0, ())) fun (y : Int × Unit) =>
       Option.bind (F84 (Prod.fst (Prod.fst (Prod.snd (Prod.snd (List.getD t50 (Int.toNat t52) (0, 0, (0, 0, ()), ()))))), Prod.fst (Prod.snd (Prod.fst (Prod.snd (Prod.snd (List.getD t50 (Int.toNat t52) (0, 0, (0, 0, ()), ())))))), List.set (List.replicate 1 0) 0 (Prod.fst y), ())) fun (y : Bool × Unit) =>
        bif Prod.fst y then G 1 K107s122_1 (((t0, (), (), (), (), IntKind.wrap IntKind.i64 (t9 + 1), ()), ()), h0, ((), ()), h2, (), ((h4a_0, ()), ()), h5, h6, u8, h8, ())
        else G 3 K107s122_3 (((t0, (), (), (), (), t9, t50, t51, IntKind.wrap IntKind.i64 (t52 + 1), ()), ()), h0, ((), ()), h2, (), ((h4a_0, ()), ()), h5, h6, u8, h8, ())
     else G 3 K107s122_3 (((t0, (), (), (), (), t9, t50, t51, IntKind.wrap IntKind.i64 (t52 + 1), ()), ()), h0, ((), ()), h2, (), ((h4a_0, ()), ()), h5, h6, u8, h8, ())
  else G 3 K107s122_3 (((t0, (), (), (), (), t9, t50, t51, IntKind.wrap IntKind.i64 (t52 + 1), ()), ()), h0, ((), ()), h2, (), ((h4a_0, ()), ()), h5, h6, u8, h8, ())
 else none
 else
 Option.bind (f Y107s122 (((IntKind.wrap IntKind.i64 (t0 + 1), (), (), (), (), (), (), ()), ()), h0, ((), ()), h2, (), ((h4a_0, ()), ()), h5, h6, u8, ()))
  fun
   (y :
     (Bool × Unit) ×
      Bool ×
       (Nat × Unit × Unit) × Option Sb × Unit × ((Option Sb × Unit) × Unit) × List Int × List Int × (Unit × Unit × Unit × Unit × Unit × Unit × Unit × Unit) × Unit) =>
  bif Nat.beq (Prod.fst (Prod.fst (Prod.snd (Prod.snd y)))) 0 then
   bif !Prod.fst (Prod.fst y) then
    some
     ((false, ()), Prod.fst (Prod.snd y), (0, (), ()), Prod.fst (Prod.snd (Prod.snd (Prod.snd y))), (), ((Prod.fst (Prod.fst (Prod.fst (Prod.snd (Prod.snd (Prod.snd (Prod.snd (Prod.snd y))))))), ()), ()), Prod.fst (Prod.snd (Prod.snd (Prod.snd (Prod.snd (Prod.snd (Prod.snd y)))))), Prod.fst (Prod.snd (Prod.snd (Prod.snd (Prod.snd (Prod.snd (Prod.snd (Prod.snd y))))))),
       u8, ())
   else
    G 1 K107s122_1
     (((t0, (), (), (), (), IntKind.wrap IntKind.i64 (t9 + 1), ()), ()), Prod.fst (Prod.snd y), ((), ()), Prod.fst (Prod.snd (Prod.snd (Prod.snd y))), (), ((Prod.fst (Prod.fst (Prod.fst (Prod.snd (Prod.snd (Prod.snd (Prod.snd (Prod.snd y))))))), ()), ()), Prod.fst (Prod.snd (Prod.snd (Prod.snd (Prod.snd (Prod.snd (Prod.snd y)))))),
       Prod.fst (Prod.snd (Prod.snd (Prod.snd (Prod.snd (Prod.snd (Prod.snd (Prod.snd y))))))), u8, h8, ())
  else
   bif Nat.beq (Prod.fst (Prod.fst (Prod.snd (Prod.snd y)))) 1 then
    bif !Prod.fst (Prod.fst y) then
     some
      ((false, ()), Prod.fst (Prod.snd y), (1, (), ()), Prod.fst (Prod.snd (Prod.snd (Prod.snd y))), (), ((Prod.fst (Prod.fst (Prod.fst (Prod.snd (Prod.snd (Prod.snd (Prod.snd (Prod.snd y))))))), ()), ()), Prod.fst (Prod.snd (Prod.snd (Prod.snd (Prod.snd (Prod.snd (Prod.snd y)))))), Prod.fst (Prod.snd (Prod.snd (Prod.snd (Prod.snd (Prod.snd (Prod.snd (Prod.snd y))))))),
        u8, ())
    else none
   else none := by kernel_rfl
noncomputable def G107s122 : List (Code × Code) → denK (specAt S107s122 0) → Option (denL [.bool] × denH O107s122) := gsub (cx120) 122 (cAt Tryd.f122 []) S107s122 20 [.bool] O107s122 6000
noncomputable def cx107s122 : Ctx := X107s122 G107s122
def S107 : List Gh.Spec := []
abbrev GT107 : Type := (n : Nat) → Kept → denK (specAt S107 n) → Option (denL [.bool])
theorem E107 (G : GT107) (t0 : (Option Sb)) : enter cx107s122 S107 [.bool] 6000 some G 107 [(.hnd 0 (.struct [tSe, (.int .i64)]))] (t0, ()) =
  Option.bind (G107s122 Y107s122 (((0, (), (), (), (), (), (), ()), ()), false, ((), ()), t0, (), ((t0, ()), ()), List.replicate 7 0, -1 :: List.replicate 6 0, u8, ()))
 fun
  (y :
    (Bool × Unit) ×
     Bool × (Nat × Unit × Unit) × Option Sb × Unit × ((Option Sb × Unit) × Unit) × List Int × List Int × (Unit × Unit × Unit × Unit × Unit × Unit × Unit × Unit) × Unit) =>
 bif Nat.beq (Prod.fst (Prod.fst (Prod.snd (Prod.snd y)))) 0 then some (false, ()) else bif Nat.beq (Prod.fst (Prod.fst (Prod.snd (Prod.snd y)))) 1 then some (Prod.fst (Prod.snd y), ()) else none := by kernel_rfl
noncomputable def F107 : denL [(.hnd 0 (.struct [tSe, (.int .i64)]))] → Option (denL [.bool]) := ghost cx107s122 S107 6000 107 [(.hnd 0 (.struct [tSe, (.int .i64)]))] [.bool]
noncomputable def C107 : Con := ⟨[(.hnd 0 (.struct [tSe, (.int .i64)]))], [.bool], F107⟩
noncomputable def cx107 : Ctx := cx120.add 107 C107
end Go.Proofs.YtkbephbhajplhaaDoor
/- What the ghost comes to: numbers, means, wrong sums. Conditions: none (equations, each by computation). -/
namespace Go.Proofs.YtkbephbhajplhaaDoor
open Go Go.Gh Go.Proofs
def S88 : List Gh.Spec := []
abbrev GT88 : Type := (n : Nat) → Kept → denK (specAt S88 n) → Option (denL [(.hnd 0 (.struct [tSe, (.int .i64)])), (.int .i64)])
theorem E88 (G : GT88) (t0 : Se) (t1 : Int) (t2 : (List Int)) : enter cx107 S88 [(.hnd 0 (.struct [tSe, (.int .i64)])), (.int .i64)] 6000 some G 88 [tSe, (.int .i64), (.slice (.int .i64))] (t0, (t1, (t2, ()))) =
  Option.bind (F17 (t0, ())) fun (y : Int × Int × Int × Unit) =>
 bif Prod.fst (Prod.snd (Prod.snd y)) != 0 then some (none, Prod.fst (Prod.snd (Prod.snd y)), ())
 else
  Option.bind (F84 (0, IntKind.wrap IntKind.i64 ((↑(List.length (Prod.fst t0)) : Int) - 1), t2, ())) fun (y : Bool × Unit) =>
   bif Prod.fst y then some (none, 4, ()) else bif t1 != 0 then some (none, t1, ()) else Option.bind (F106 (t0, 0, ())) fun (y : Option Sb × Unit) => Option.bind (F107 (Prod.fst y, ())) fun (y_1 : Bool × Unit) => bif !Prod.fst y_1 then some (none, 8, ()) else some (Prod.fst y, 0, ()) := by kernel_rfl
noncomputable def F88 : denL [tSe, (.int .i64), (.slice (.int .i64))] → Option (denL [(.hnd 0 (.struct [tSe, (.int .i64)])), (.int .i64)]) := ghost cx107 S88 6000 88 [tSe, (.int .i64), (.slice (.int .i64))] [(.hnd 0 (.struct [tSe, (.int .i64)])), (.int .i64)]
noncomputable def C88 : Con := ⟨[tSe, (.int .i64), (.slice (.int .i64))], [(.hnd 0 (.struct [tSe, (.int .i64)])), (.int .i64)], F88⟩
noncomputable def cx88 : Ctx := cx107.add 88 C88
def O89s122 : List (Nat × BSh) := [(890004, .box (.dat (.int .i64)) false), (890005, .box (.dat (.int .i64)) false), (890006, .box (.dat tSp) false), (890007, .box (.dat tSp) false), (899004, .loopE 89 19 [(4, (.ptr 890004 [])), (5, (.ptr 890005 [])), (7, (.ptr 890007 []))] [12] 0 [0]), (10950001, .box (.dat (.hnd 0 (.struct [tSe, (.int .i64)]))) false), (11210002, .box (.yld 899004) false), (11210003, .box (.fn 96 [(.dat (.hnd 0 (.struct [tSe, (.int .i64)])))] []) false), (11210004, .box (.dat (.arr 7 (.int .i64))) false), (11210005, .box (.dat (.arr 7 (.int .i64))) false), (11210006, .box (.fn 122 [] [(.ptr 10950001 []), (.ptr 11210004 []), (.ptr 11210006 []), (.ptr 11210005 []), (.ptr 11210003 []), (.ptr 11210002 [])]) false)]
noncomputable def Y89s122 : List (Code × Code) := [noCodes, noCodes, noCodes, noCodes, ((cAt Tryd.f89 [1, 1, 0, 1, 0, 0]), (cAt Tryd.f89 [1, 1, 0, 1, 0, 1])), noCodes, noCodes, noCodes, noCodes, noCodes, noCodes]
def S89s122 : List Gh.Spec := [{ key := (0, 0, 0, 0), frs := [{ fn := 122, n := 119, regs := [(0, (.dat (.int .i64))), (1, (.ptr 10950001 [])), (2, (.ptr 11210004 [])), (3, (.ptr 11210006 [])), (4, (.ptr 11210005 [])), (5, (.ptr 11210003 [])), (6, (.ptr 11210002 []))], round := none, defers := [] }], heap := [(890004, .box (.dat (.int .i64)) false), (890005, .box (.dat (.int .i64)) false), (890006, .box (.dat tSp) false), (890007, .box (.dat tSp) false), (899004, .loop 89 19 [(4, (.ptr 890004 [])), (5, (.ptr 890005 [])), (7, (.ptr 890007 []))] [12] 0 false), (10950001, .box (.dat (.hnd 0 (.struct [tSe, (.int .i64)]))) false), (11210002, .box (.yld 899004) false), (11210003, .box (.fn 96 [(.dat (.hnd 0 (.struct [tSe, (.int .i64)])))] []) false), (11210004, .box (.dat (.arr 7 (.int .i64))) false), (11210005, .box (.dat (.arr 7 (.int .i64))) false), (11210006, .box (.fn 122 [] [(.ptr 10950001 []), (.ptr 11210004 []), (.ptr 11210006 []), (.ptr 11210005 []), (.ptr 11210003 []), (.ptr 11210002 [])]) false)], base := 20 }, { key := (123194000000000000004804566, 122, 3, 1), frs := [{ fn := 122, n := 119, regs := [(0, (.dat (.int .i64))), (1, (.ptr 10950001 [])), (2, (.ptr 11210004 [])), (3, (.ptr 11210006 [])), (8, (.ptr 201220008 [])), (9, (.dat (.int .i64)))], round := none, defers := [] }], heap := [(890004, .box (.dat (.int .i64)) false), (890005, .box (.dat (.int .i64)) false), (890006, .box (.dat tSp) false), (890007, .box (.dat tSp) false), (899004, .loop 89 19 [(4, (.ptr 890004 [])), (5, (.ptr 890005 [])), (7, (.ptr 890007 []))] [12] 0 false), (10950001, .box (.dat (.hnd 0 (.struct [tSe, (.int .i64)]))) false), (11210002, .box (.yld 899004) false), (11210003, .box (.fn 96 [(.dat (.hnd 0 (.struct [tSe, (.int .i64)])))] []) false), (11210004, .box (.dat (.arr 7 (.int .i64))) false), (11210005, .box (.dat (.arr 7 (.int .i64))) false), (11210006, .box (.fn 122 [] [(.ptr 10950001 []), (.ptr 11210004 []), (.ptr 11210006 []), (.ptr 11210005 []), (.ptr 11210003 []), (.ptr 11210002 [])]) false), (201220008, .box (.dat .bool) false)], base := 20 }, { key := (123194000000000000004804589, 123, 2, 1), frs := [{ fn := 123, n := 32, regs := [(0, (.yld 201229019)), (2, (.ptr 210990003 [])), (4, (.dat (.int .i64))), (11, (.dat (.int .i64))), (12, (.dat (.int .i64)))], round := none, defers := [] }, { fn := 122, n := 119, regs := [(2, (.ptr 11210004 [])), (6, (.ptr 11210002 [])), (8, (.ptr 201220008 []))], round := none, defers := [] }], heap := [(890004, .box (.dat (.int .i64)) false), (890005, .box (.dat (.int .i64)) false), (890006, .box (.dat tSp) false), (890007, .box (.dat tSp) false), (899004, .loop 89 19 [(4, (.ptr 890004 [])), (5, (.ptr 890005 [])), (7, (.ptr 890007 []))] [12] 0 false), (10950001, .box (.dat (.hnd 0 (.struct [tSe, (.int .i64)]))) false), (11210002, .box (.yld 899004) false), (11210003, .box (.fn 96 [(.dat (.hnd 0 (.struct [tSe, (.int .i64)])))] []) false), (11210004, .box (.dat (.arr 7 (.int .i64))) false), (11210005, .box (.dat (.arr 7 (.int .i64))) false), (11210006, .box (.fn 122 [] [(.ptr 10950001 []), (.ptr 11210004 []), (.ptr 11210006 []), (.ptr 11210005 []), (.ptr 11210003 []), (.ptr 11210002 [])]) false), (201220008, .box (.dat .bool) false), (201229019, .loop 122 119 [(1, (.ptr 10950001 [])), (8, (.ptr 201220008 []))] [100] 0 false), (210990003, .box (.dat (.int .i64)) false)], base := 20 }, { key := (123194000000000000004804566, 122, 7, 1), frs := [{ fn := 122, n := 119, regs := [(0, (.dat (.int .i64))), (1, (.ptr 10950001 [])), (2, (.ptr 11210004 [])), (3, (.ptr 11210006 [])), (8, (.ptr 201220008 [])), (9, (.dat (.int .i64))), (50, (.dat (.slice tSm))), (51, (.dat (.int .i64))), (52, (.dat (.int .i64)))], round := none, defers := [] }], heap := [(890004, .box (.dat (.int .i64)) false), (890005, .box (.dat (.int .i64)) false), (890006, .box (.dat tSp) false), (890007, .box (.dat tSp) false), (899004, .loop 89 19 [(4, (.ptr 890004 [])), (5, (.ptr 890005 [])), (7, (.ptr 890007 []))] [12] 0 false), (10950001, .box (.dat (.hnd 0 (.struct [tSe, (.int .i64)]))) false), (11210002, .box (.yld 899004) false), (11210003, .box (.fn 96 [(.dat (.hnd 0 (.struct [tSe, (.int .i64)])))] []) false), (11210004, .box (.dat (.arr 7 (.int .i64))) false), (11210005, .box (.dat (.arr 7 (.int .i64))) false), (11210006, .box (.fn 122 [] [(.ptr 10950001 []), (.ptr 11210004 []), (.ptr 11210006 []), (.ptr 11210005 []), (.ptr 11210003 []), (.ptr 11210002 [])]) false), (201220008, .box (.dat .bool) false)], base := 20 }]
noncomputable def K89s122_0 : Kept := kept0 (cAt Tryd.f122 []) Y89s122
noncomputable def K89s122_1 : Kept := { todos := [[.inLoop (cAt Tryd.f122 [1, 0, 1, 0, 0, 1, 0, 1, 0, 0]), .inBlock 0, .code (cAt Tryd.f122 [1, 0, 1, 0, 0, 1, 1]), .inScope (cAt Tryd.f122 [1, 0, 1, 0, 0]), .code (cAt Tryd.f122 [1, 1])]], cs := [noCodes, noCodes, noCodes, noCodes, ((cAt Tryd.f89 [1, 1, 0, 1, 0, 0]), (cAt Tryd.f89 [1, 1, 0, 1, 0, 1])), noCodes, noCodes, noCodes, noCodes, noCodes, noCodes, noCodes] }
noncomputable def K89s122_2 : Kept := { todos := [[.inLoop (cAt Tryd.f123 [1, 1, 0, 0]), .inBlock 0], [.inRangeFunc 201229019, .inBlock 4, .code (cAt Tryd.f122 [1, 1, 1, 1, 1])]], cs := [noCodes, noCodes, noCodes, noCodes, ((cAt Tryd.f89 [1, 1, 0, 1, 0, 0]), (cAt Tryd.f89 [1, 1, 0, 1, 0, 1])), noCodes, noCodes, noCodes, noCodes, noCodes, noCodes, noCodes, ((cAt Tryd.f122 [1, 1, 1, 1, 0, 1, 0, 0]), (cAt Tryd.f122 [1, 1, 1, 1, 0, 1, 0, 1])), noCodes] }
noncomputable def K89s122_3 : Kept := { todos := [[.inLoop (cAt Tryd.f122 [1, 0, 1, 0, 0, 1, 0, 1, 0, 0, 1, 0, 0, 1, 0, 1, 0, 0]), .inBlock 2, .code (cAt Tryd.f122 [1, 0, 1, 0, 0, 1, 0, 1, 0, 0, 1, 0, 0, 1, 1]), .inBlock 1, .code (cAt Tryd.f122 [1, 0, 1, 0, 0, 1, 0, 1, 0, 0, 1, 1]), .inLoop (cAt Tryd.f122 [1, 0, 1, 0, 0, 1, 0, 1, 0, 0]), .inBlock 0, .code (cAt Tryd.f122 [1, 0, 1, 0, 0, 1, 1]), .inScope (cAt Tryd.f122 [1, 0, 1, 0, 0]), .code (cAt Tryd.f122 [1, 1])]], cs := [noCodes, noCodes, noCodes, noCodes, ((cAt Tryd.f89 [1, 1, 0, 1, 0, 0]), (cAt Tryd.f89 [1, 1, 0, 1, 0, 1])), noCodes, noCodes, noCodes, noCodes, noCodes, noCodes, noCodes] }
noncomputable def X89s122 (f : List (Code × Code) → denK (specAt S89s122 0) → Option (denL [.bool] × denH O89s122)) : Ctx := (cx88).addS 122 (asSub S89s122 20 [.bool] O89s122 f)
abbrev GT89s122 : Type := (n : Nat) → Kept → denK (specAt S89s122 n) → Option (denL [.bool] × denH O89s122)
abbrev FT89s122 : Type := List (Code × Code) → denK (specAt S89s122 0) → Option (denL [.bool] × denH O89s122)
theorem Q89s122_0 (G : GT89s122) (f : FT89s122) (t0 : Int) (h0 : Int) (h1 : Int) (h2 : Sp) (h3 : Sp) (h5 : (Option Sb)) (h7a_0 : (Option Sb)) (h8 : (List Int)) (h9 : (List Int)) : sseg (X89s122 f) S89s122 [.bool] O89s122 6000 some G 0 K89s122_0 (((t0, ((), ((), ((), ((), ((), ((), ()))))))), ()), (h0, (h1, (h2, (h3, (((), ((), ((), ()))), (h5, ((), (((h7a_0, ()), ()), (h8, (h9, (u8, ())))))))))))) =
  Option.bind h5 fun (y : Sb) =>
 bif decide (t0 < (↑(List.length (Prod.fst (Prod.fst y))) : Int)) then
  Option.bind h5 fun (y : Sb) =>
   bif decide (0 ≤ t0) && decide (t0 < (↑(List.length (Prod.fst (Prod.fst y))) : Int)) then G 1 K89s122_1 (((t0, (), (), (), (), Prod.fst (List.getD (Prod.fst (Prod.fst y)) (Int.toNat t0) (0, 0, ())), ()), ()), h0, h1, h2, h3, ((), (), (), ()), h5, (), ((h7a_0, ()), ()), h8, h9, u8, false, ()) else none
 else
  bif eqD (Ty.arr 7 (Ty.int IntKind.i64)) h8 h9 then some ((true, ()), h0, h1, h2, h3, (0, (), (), (), ()), h5, (), ((h7a_0, ()), ()), h8, h9, u8, ())
  else
   Option.bind (F96 (h7a_0, h8, ())) fun (y : Int × Unit) =>
    Option.bind h5 fun (y_1 : Sb) =>
     G 2 K89s122_2 ((((), (), -1, (↑(List.length (Prod.fst (Prod.fst y_1))) : Int), 0, ()), ((), (), (), ()), ()), h0, h1, h2, h3, ((), (), (), ()), h5, (), ((h7a_0, ()), ()), h8, h8, u8, false, ((), (), ()), Prod.fst y, ()) := by kernel_rfl
theorem Q89s122_1 (G : GT89s122) (f : FT89s122) (t0 : Int) (t9 : Int) (h0 : Int) (h1 : Int) (h2 : Sp) (h3 : Sp) (h5 : (Option Sb)) (h7a_0 : (Option Sb)) (h8 : (List Int)) (h9 : (List Int)) (h11 : Bool) : sseg (X89s122 f) S89s122 [.bool] O89s122 6000 some G 1 K89s122_1 (((t0, ((), ((), ((), ((), (t9, ())))))), ()), (h0, (h1, (h2, (h3, (((), ((), ((), ()))), (h5, ((), (((h7a_0, ()), ()), (h8, (h9, (u8, (h11, ()))))))))))))) =
  Option.bind h5 fun (y : Sb) =>
 bif decide (0 ≤ t0) && decide (t0 < (↑(List.length (Prod.fst (Prod.fst y))) : Int)) then
  bif decide (t9 ≤ Prod.fst (Prod.snd (List.getD (Prod.fst (Prod.fst y)) (Int.toNat t0) (0, 0, ())))) then
   bif decide (0 ≤ t0) && decide (t0 < 7) then
    bif decide (Int.toNat t0 < 7) then
     Option.bind h5 fun (y : Sb) =>
      G 3 K89s122_3 (((t0, (), (), (), (), t9, Prod.fst (Prod.snd (Prod.fst y)), (↑(List.length (Prod.fst (Prod.snd (Prod.fst y)))) : Int), 0, ()), ()), h0, h1, h2, h3, ((), (), (), ()), h5, (), ((h7a_0, ()), ()), List.set h8 (Int.toNat t0) t9, h9, u8, h11, ())
    else none
   else none
  else some ((true, ()), h0, h1, h2, h3, (0, (), (), (), ()), h5, (), ((h7a_0, ()), ()), h8, h9, u8, ())
 else none := by kernel_rfl
theorem Q89s122_2 (G : GT89s122) (f : FT89s122) (t4 : Int) (t11 : Int) (t12 : Int) (h0 : Int) (h1 : Int) (h2 : Sp) (h3 : Sp) (h5 : (Option Sb)) (h7a_0 : (Option Sb)) (h8 : (List Int)) (h9 : (List Int)) (h11 : Bool) (h13 : Int) : sseg (X89s122 f) S89s122 [.bool] O89s122 6000 some G 2 K89s122_2 ((((), ((), (t4, (t11, (t12, ()))))), (((), ((), ((), ()))), ())), (h0, (h1, (h2, (h3, (((), ((), ((), ()))), (h5, ((), (((h7a_0, ()), ()), (h8, (h9, (u8, (h11, (((), ((), ())), (h13, ()))))))))))))))) =
  bif decide (t12 < t11) then
 bif decide (t12 < 0) then none
 else
  bif bitF BinOp.and IntKind.i64 (Int.fdiv h13 (2 ^ min (Int.toNat t12) 64)) 1 == 0 then G 2 K89s122_2 ((((), (), t4, t11, IntKind.wrap IntKind.i64 (t12 + 1), ()), ((), (), (), ()), ()), h0, h1, h2, h3, ((), (), (), ()), h5, (), ((h7a_0, ()), ()), h8, h9, u8, h11, ((), (), ()), h13, ())
  else
   bif decide (t4 ≥ 0) then
    Option.bind h5 fun (y : Sb) =>
     Option.bind h5 fun (y_1 : Sb) =>
      Option.bind (F84 (Prod.fst (Prod.fst (Prod.snd (Prod.snd (Prod.fst y)))), Prod.fst (Prod.snd (Prod.fst (Prod.snd (Prod.snd (Prod.fst y_1))))), List.set (List.replicate 1 0) 0 (IntKind.wrap IntKind.i64 (t12 - t4)), ())) fun (y : Bool × Unit) =>
       bif Prod.fst y then some ((true, ()), h0, h1, h2, h3, (0, (), (), (), ()), h5, (), ((h7a_0, ()), ()), h8, h9, u8, ()) else G 2 K89s122_2 ((((), (), t12, t11, IntKind.wrap IntKind.i64 (t12 + 1), ()), ((), (), (), ()), ()), h0, h1, h2, h3, ((), (), (), ()), h5, (), ((h7a_0, ()), ()), h8, h9, u8, h11, ((), (), ()), h13, ())
   else G 2 K89s122_2 ((((), (), t12, t11, IntKind.wrap IntKind.i64 (t12 + 1), ()), ((), (), (), ()), ()), h0, h1, h2, h3, ((), (), (), ()), h5, (), ((h7a_0, ()), ()), h8, h9, u8, h11, ((), (), ()), h13, ())
 else Option.bind (F120 (h8, h0, h1, ())) fun (y : Int × Unit) => Option.bind (F100 (h3, Prod.fst y, ())) fun (y : Sp × Unit) => some ((true, ()), h0, h1, h2, Prod.fst y, (0, (), (), (), ()), h5, (), ((h7a_0, ()), ()), h8, h9, u8, ()) := by kernel_rfl
theorem Q89s122_3 (G : GT89s122) (f : FT89s122) (t0 : Int) (t9 : Int) (t50 : (List Sm)) (t51 : Int) (t52 : Int) (h0 : Int) (h1 : Int) (h2 : Sp) (h3 : Sp) (h5 : (Option Sb)) (h7a_0 : (Option Sb)) (h8 : (List Int)) (h9 : (List Int)) (h11 : Bool) : sseg (X89s122 f) S89s122 [.bool] O89s122 6000 some G 3 K89s122_3 (((t0, ((), ((), ((), ((), (t9, (t50, (t51, (t52, ()))))))))), ()), (h0, (h1, (h2, (h3, (((), ((), ((), ()))), (h5, ((), (((h7a_0, ()), ()), (h8, (h9, (u8, (h11, ()))))))))))))) =
  bif decide (t52 < t51) then
 bif decide (0 ≤ t52) && decide (t52 < (↑(List.length t50) : Int)) then
  bif Prod.fst (Prod.snd (List.getD t50 (Int.toNat t52) (0, 0, (0, 0, ()), ()))) == t0 then
   Option.bind h5 fun (y : Sb) =>
    bif decide (t52 < 0) then none
    else
     bif bitF BinOp.and IntKind.i64 (Int.fdiv (Prod.fst (Prod.snd y)) (2 ^ min (Int.toNat t52) 64)) 1 == 0 then
      Option.bind (F120 (h8, Prod.fst (List.getD t50 (Int.toNat t52) (0, 0, (0, 0, ()), ())), t0, ())) fun (y : Int × Unit) =>
       Option.bind (F84 (Prod.fst (Prod.fst (Prod.snd (Prod.snd (List.getD t50 (Int.toNat t52) (0, 0, (0, 0, ()), ()))))), Prod.fst (Prod.snd (Prod.fst (Prod.snd (Prod.snd (List.getD t50 (Int.toNat t52) (0, 0, (0, 0, ()), ())))))), List.set (List.replicate 1 0) 0 (Prod.fst y), ())) fun (y : Bool × Unit) =>
        bif Prod.fst y then G 1 K89s122_1 (((t0, (), (), (), (), IntKind.wrap IntKind.i64 (t9 + 1), ()), ()), h0, h1, h2, h3, ((), (), (), ()), h5, (), ((h7a_0, ()), ()), h8, h9, u8, h11, ())
        else G 3 K89s122_3 (((t0, (), (), (), (), t9, t50, t51, IntKind.wrap IntKind.i64 (t52 + 1), ()), ()), h0, h1, h2, h3, ((), (), (), ()), h5, (), ((h7a_0, ()), ()), h8, h9, u8, h11, ())
     else G 3 K89s122_3 (((t0, (), (), (), (), t9, t50, t51, IntKind.wrap IntKind.i64 (t52 + 1), ()), ()), h0, h1, h2, h3, ((), (), (), ()), h5, (), ((h7a_0, ()), ()), h8, h9, u8, h11, ())
  else G 3 K89s122_3 (((t0, (), (), (), (), t9, t50, t51, IntKind.wrap IntKind.i64 (t52 + 1), ()), ()), h0, h1, h2, h3, ((), (), (), ()), h5, (), ((h7a_0, ()), ()), h8, h9, u8, h11, ())
 else none
 else
 Option.bind (f Y89s122 (((IntKind.wrap IntKind.i64 (t0 + 1), (), (), (), (), (), (), ()), ()), h0, h1, h2, h3, ((), (), (), ()), h5, (), ((h7a_0, ()), ()), h8, h9, u8, ()))
  fun
   (y :
     (Bool × Unit) ×
      Int ×
       Int ×
        Sp ×
         Sp ×
          (Nat × Unit × Unit × Unit × Unit) ×
           Option Sb × Unit × ((Option Sb × Unit) × Unit) × List Int × List Int × (Unit × Unit × Unit × Unit × Unit × Unit × Unit × Unit) × Unit) =>
  bif Nat.beq (Prod.fst (Prod.fst (Prod.snd (Prod.snd (Prod.snd (Prod.snd (Prod.snd y))))))) 0 then
   bif !Prod.fst (Prod.fst y) then
    some
     ((false, ()), Prod.fst (Prod.snd y), Prod.fst (Prod.snd (Prod.snd y)), Prod.fst (Prod.snd (Prod.snd (Prod.snd y))), Prod.fst (Prod.snd (Prod.snd (Prod.snd (Prod.snd y)))), (0, (), (), (), ()), Prod.fst (Prod.snd (Prod.snd (Prod.snd (Prod.snd (Prod.snd (Prod.snd y)))))), (),
       ((Prod.fst (Prod.fst (Prod.fst (Prod.snd (Prod.snd (Prod.snd (Prod.snd (Prod.snd (Prod.snd (Prod.snd (Prod.snd y)))))))))), ()), ()), Prod.fst (Prod.snd (Prod.snd (Prod.snd (Prod.snd (Prod.snd (Prod.snd (Prod.snd (Prod.snd (Prod.snd y))))))))), Prod.fst (Prod.snd (Prod.snd (Prod.snd (Prod.snd (Prod.snd (Prod.snd (Prod.snd (Prod.snd (Prod.snd (Prod.snd y)))))))))),
       u8, ())
   else
    G 1 K89s122_1
     (((t0, (), (), (), (), IntKind.wrap IntKind.i64 (t9 + 1), ()), ()), Prod.fst (Prod.snd y), Prod.fst (Prod.snd (Prod.snd y)), Prod.fst (Prod.snd (Prod.snd (Prod.snd y))), Prod.fst (Prod.snd (Prod.snd (Prod.snd (Prod.snd y)))), ((), (), (), ()), Prod.fst (Prod.snd (Prod.snd (Prod.snd (Prod.snd (Prod.snd (Prod.snd y)))))), (),
       ((Prod.fst (Prod.fst (Prod.fst (Prod.snd (Prod.snd (Prod.snd (Prod.snd (Prod.snd (Prod.snd (Prod.snd (Prod.snd y)))))))))), ()), ()), Prod.fst (Prod.snd (Prod.snd (Prod.snd (Prod.snd (Prod.snd (Prod.snd (Prod.snd (Prod.snd (Prod.snd y))))))))), Prod.fst (Prod.snd (Prod.snd (Prod.snd (Prod.snd (Prod.snd (Prod.snd (Prod.snd (Prod.snd (Prod.snd (Prod.snd y)))))))))),
       u8, h11, ())
  else none := by kernel_rfl
noncomputable def G89s122 : List (Code × Code) → denK (specAt S89s122 0) → Option (denL [.bool] × denH O89s122) := gsub (cx88) 122 (cAt Tryd.f122 []) S89s122 20 [.bool] O89s122 6000
noncomputable def cx89s122 : Ctx := X89s122 G89s122
def S89 : List Gh.Spec := []
abbrev GT89 : Type := (n : Nat) → Kept → denK (specAt S89 n) → Option (denL [tSp])
theorem E89 (G : GT89) (t0 : (Option Sb)) (t1 : Int) (t2 : Int) : enter cx89s122 S89 [tSp] 6000 some G 89 [(.hnd 0 (.struct [tSe, (.int .i64)])), (.int .i64), (.int .i64)] (t0, (t1, (t2, ()))) =
  Option.bind (G89s122 Y89s122 (((0, (), (), (), (), (), (), ()), ()), t1, t2, (0, 0, ()), (1099511627776, -1, ()), ((), (), (), ()), t0, (), ((t0, ()), ()), List.replicate 7 0, -1 :: List.replicate 6 0, u8, ()))
 fun
  (y :
    (Bool × Unit) ×
     Int ×
      Int ×
       Sp ×
        Sp ×
         (Nat × Unit × Unit × Unit × Unit) ×
          Option Sb × Unit × ((Option Sb × Unit) × Unit) × List Int × List Int × (Unit × Unit × Unit × Unit × Unit × Unit × Unit × Unit) × Unit) =>
 bif Nat.beq (Prod.fst (Prod.fst (Prod.snd (Prod.snd (Prod.snd (Prod.snd (Prod.snd y))))))) 0 then some (Prod.fst (Prod.snd (Prod.snd (Prod.snd (Prod.snd y)))), ()) else none := by kernel_rfl
noncomputable def F89 : denL [(.hnd 0 (.struct [tSe, (.int .i64)])), (.int .i64), (.int .i64)] → Option (denL [tSp]) := ghost cx89s122 S89 6000 89 [(.hnd 0 (.struct [tSe, (.int .i64)])), (.int .i64), (.int .i64)] [tSp]
noncomputable def C89 : Con := ⟨[(.hnd 0 (.struct [tSe, (.int .i64)])), (.int .i64), (.int .i64)], [tSp], F89⟩
noncomputable def cx89 : Ctx := cx88.add 89 C89
def S19 : List Gh.Spec := []
abbrev GT19 : Type := (n : Nat) → Kept → denK (specAt S19 n) → Option (denL [tSp, (.int .i64)])
theorem E19 (G : GT19) (t0 : Se) (t1 : Int) : enter cx89 S19 [tSp, (.int .i64)] 6000 some G 19 [tSe, (.int .i64)] (t0, (t1, ())) =
  Option.bind (F88 (t0, 0, List.set (List.replicate 1 0) 0 t1, ())) fun (y : Option Sb × Int × Unit) =>
 bif Prod.fst (Prod.snd y) != 0 then some ((0, 0, ()), Prod.fst (Prod.snd y), ()) else Option.bind (F89 (Prod.fst y, t1, t1, ())) fun (y : Sp × Unit) => some (Prod.fst y, 0, ()) := by kernel_rfl
noncomputable def F19 : denL [tSe, (.int .i64)] → Option (denL [tSp, (.int .i64)]) := ghost cx89 S19 6000 19 [tSe, (.int .i64)] [tSp, (.int .i64)]
noncomputable def C19 : Con := ⟨[tSe, (.int .i64)], [tSp, (.int .i64)], F19⟩
noncomputable def cx19 : Ctx := cx89.add 19 C19
def S21 : List Gh.Spec := []
abbrev GT21 : Type := (n : Nat) → Kept → denK (specAt S21 n) → Option (denL [tSp, tSp, (.int .i64)])
theorem E21 (G : GT21) (t0 : Se) (t1 : Int) (t2 : Int) : enter cx19 S21 [tSp, tSp, (.int .i64)] 6000 some G 21 [tSe, (.int .i64), (.int .i64)] (t0, (t1, (t2, ()))) =
  bif decide (t1 > t2) then
 Option.bind (F88 (t0, 2, List.set (List.set (List.replicate 2 0) 0 t1) 1 t2, ())) fun (y : Option Sb × Int × Unit) =>
  bif Prod.fst (Prod.snd y) != 0 then some ((0, 0, ()), (0, 0, ()), Prod.fst (Prod.snd y), ())
  else
   Option.bind (F89 (Prod.fst y, t1, t2, ())) fun (y : Sp × Unit) =>
    Option.bind (F93 (Prod.fst (Prod.fst y), IntKind.wrap IntKind.i64 (IntKind.wrap IntKind.i64 (t2 - t1) + 1), ())) fun (y_1 : Sp × Unit) => Option.bind (F93 (Prod.fst (Prod.snd (Prod.fst y)), IntKind.wrap IntKind.i64 (IntKind.wrap IntKind.i64 (t2 - t1) + 1), ())) fun (y : Sp × Unit) => some (Prod.fst y_1, Prod.fst y, 0, ())
 else
 Option.bind (F88 (t0, 0, List.set (List.set (List.replicate 2 0) 0 t1) 1 t2, ())) fun (y : Option Sb × Int × Unit) =>
  bif Prod.fst (Prod.snd y) != 0 then some ((0, 0, ()), (0, 0, ()), Prod.fst (Prod.snd y), ())
  else
   Option.bind (F89 (Prod.fst y, t1, t2, ())) fun (y : Sp × Unit) =>
    Option.bind (F93 (Prod.fst (Prod.fst y), IntKind.wrap IntKind.i64 (IntKind.wrap IntKind.i64 (t2 - t1) + 1), ())) fun (y_1 : Sp × Unit) => Option.bind (F93 (Prod.fst (Prod.snd (Prod.fst y)), IntKind.wrap IntKind.i64 (IntKind.wrap IntKind.i64 (t2 - t1) + 1), ())) fun (y : Sp × Unit) => some (Prod.fst y_1, Prod.fst y, 0, ()) := by kernel_rfl
noncomputable def F21 : denL [tSe, (.int .i64), (.int .i64)] → Option (denL [tSp, tSp, (.int .i64)]) := ghost cx19 S21 6000 21 [tSe, (.int .i64), (.int .i64)] [tSp, tSp, (.int .i64)]
noncomputable def C21 : Con := ⟨[tSe, (.int .i64), (.int .i64)], [tSp, tSp, (.int .i64)], F21⟩
noncomputable def cx21 : Ctx := cx19.add 21 C21
def S33 : List Gh.Spec := [{ key := (0, 33, 6, 1), frs := [{ fn := 33, n := 58, regs := [(1, (.ptr 330001 [])), (2, (.row 330027)), (4, (.dat .bool)), (19, (.dat (.int .i64))), (20, (.dat (.int .i64)))], round := none, defers := [] }], heap := [(330001, .box (.dat tSe) false), (330027, .row (.int .i64) true)], ren := [(2, 330027)] }, { key := (99999, 0, 0, 0), frs := [], heap := [] }]
noncomputable def K33_0 : Kept := { todos := [[.inLoop (cAt Tryd.f33 [1, 1, 1, 0, 1, 0, 0]), .inBlock 0, .code (cAt Tryd.f33 [1, 1, 1, 1])]], cs := [noCodes, noCodes] }
abbrev GT33 : Type := (n : Nat) → Kept → denK (specAt S33 n) → Option (denL [(.slice (.int .i64)), (.int .i64)])
theorem E33 (G : GT33) (t0 : Se) : enter cx21 S33 [(.slice (.int .i64)), (.int .i64)] 6000 some G 33 [tSe] (t0, ()) =
  Option.bind (F17 (t0, ())) fun (y : Int × Int × Int × Unit) => bif Prod.fst (Prod.snd (Prod.snd y)) != 0 then some ([], Prod.fst (Prod.snd (Prod.snd y)), ()) else G 0 K33_0 ((((), (), false, IntKind.wrap IntKind.i64 (1 * 2 ^ min (Int.toNat (↑(List.length (Prod.fst (Prod.snd t0))) : Int)) 64), 0, ()), ()), t0, [], ()) := by kernel_rfl
theorem Q33_0 (G : GT33) (t4 : Bool) (t19 : Int) (t20 : Int) (h0 : Se) (h1 : (List Int)) : seg cx21 S33 [(.slice (.int .i64)), (.int .i64)] 6000 some G 0 K33_0 ((((), ((), (t4, (t19, (t20, ()))))), ()), (h0, (h1, ()))) =
  bif decide (t20 < t19) then
 Option.bind (F104 (t20, (↑(List.length (Prod.fst (Prod.snd h0))) : Int), ())) fun (y : List Int × Unit) =>
  bif t4 then
   bif decide ((↑(List.length (Prod.fst y)) : Int) > (↑(List.length h1) : Int)) then G 0 K33_0 ((((), (), t4, t19, IntKind.wrap IntKind.i64 (t20 + 1), ()), ()), h0, h1, ())
   else
    bif (↑(List.length (Prod.fst y)) : Int) == (↑(List.length h1) : Int) then
     Option.bind (F105 (Prod.fst y, h1, ())) fun (y_1 : Int × Unit) =>
      bif decide (Prod.fst y_1 > 0) then G 0 K33_0 ((((), (), t4, t19, IntKind.wrap IntKind.i64 (t20 + 1), ()), ()), h0, h1, ())
      else
       Option.bind (F106 (h0, t20, ())) fun (y_2 : Option Sb × Unit) =>
        Option.bind (F107 (Prod.fst y_2, ())) fun (y_3 : Bool × Unit) => bif Prod.fst y_3 then G 0 K33_0 ((((), (), true, t19, IntKind.wrap IntKind.i64 (t20 + 1), ()), ()), h0, Prod.fst y, ()) else G 0 K33_0 ((((), (), t4, t19, IntKind.wrap IntKind.i64 (t20 + 1), ()), ()), h0, h1, ())
    else
     Option.bind (F106 (h0, t20, ())) fun (y_1 : Option Sb × Unit) =>
      Option.bind (F107 (Prod.fst y_1, ())) fun (y_2 : Bool × Unit) => bif Prod.fst y_2 then G 0 K33_0 ((((), (), true, t19, IntKind.wrap IntKind.i64 (t20 + 1), ()), ()), h0, Prod.fst y, ()) else G 0 K33_0 ((((), (), t4, t19, IntKind.wrap IntKind.i64 (t20 + 1), ()), ()), h0, h1, ())
  else
   Option.bind (F106 (h0, t20, ())) fun (y_1 : Option Sb × Unit) =>
    Option.bind (F107 (Prod.fst y_1, ())) fun (y_2 : Bool × Unit) => bif Prod.fst y_2 then G 0 K33_0 ((((), (), true, t19, IntKind.wrap IntKind.i64 (t20 + 1), ()), ()), h0, Prod.fst y, ()) else G 0 K33_0 ((((), (), t4, t19, IntKind.wrap IntKind.i64 (t20 + 1), ()), ()), h0, h1, ())
 else bif !t4 then some ([], 9, ()) else some (h1, 0, ()) := by kernel_rfl
noncomputable def F33 : denL [tSe] → Option (denL [(.slice (.int .i64)), (.int .i64)]) := ghost cx21 S33 6000 33 [tSe] [(.slice (.int .i64)), (.int .i64)]
noncomputable def C33 : Con := ⟨[tSe], [(.slice (.int .i64)), (.int .i64)], F33⟩
noncomputable def cx33 : Ctx := cx21.add 33 C33
end Go.Proofs.YtkbephbhajplhaaDoor
