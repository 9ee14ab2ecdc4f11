/- What the ghost comes to: the fewest, and what asks for them. Conditions: none (equations, each by computation). -/
import Derived.Test.YtallblpnlefpeaaRoA
namespace Go.Proofs.Ytallblpnlefpeaa
open Go Go.Gh Go.Proofs
def S130 : List Gh.Spec := []
theorem E130 (G : (n : Nat) → Kept → denK (specAt S130 n) → Option (denL [.bool])) (t0 : Int) : enter cx22 S130 [.bool] 6000 some G 130 [(.int .i64)] (t0, ()) =
  some (t0 != t0, ()) := by kernel_rfl
noncomputable def F130 : denL [(.int .i64)] → Option (denL [.bool]) := ghost cx22 S130 6000 130 [(.int .i64)] [.bool]
noncomputable def C130 : Con := ⟨[(.int .i64)], [.bool], F130⟩
noncomputable def cx130 : Ctx := cx22.add 130 C130
def S122 : List Gh.Spec := []
theorem E122 (G : (n : Nat) → Kept → denK (specAt S122 n) → Option (denL [(.int .i64)])) (t0 : Int) (t1 : Int) : enter cx130 S122 [(.int .i64)] 6000 some G 122 [(.int .i64), (.int .i64)] (t0, (t1, ())) =
  Option.bind (F130 (t0, ())) fun (y : Bool × Unit) => Option.bind (F130 (t1, ())) fun (y_1 : Bool × Unit) => bif Prod.fst y then bif Prod.fst y_1 then some (0, ()) else some (-1, ()) else bif Prod.fst y_1 then some (1, ()) else bif decide (t0 < t1) then some (-1, ()) else bif decide (t0 > t1) then some (1, ()) else some (0, ()) := by kernel_rfl
noncomputable def F122 : denL [(.int .i64), (.int .i64)] → Option (denL [(.int .i64)]) := ghost cx130 S122 6000 122 [(.int .i64), (.int .i64)] [(.int .i64)]
noncomputable def C122 : Con := ⟨[(.int .i64), (.int .i64)], [(.int .i64)], F122⟩
noncomputable def cx122 : Ctx := cx130.add 122 C122
def S116 : List Gh.Spec := [{ key := (0, 116, 2, 1), frs := [{ fn := 116, n := 36, regs := [(0, (.dat (.slice (.int .i64)))), (1, (.dat (.slice (.int .i64)))), (9, (.dat (.slice (.int .i64)))), (10, (.dat (.int .i64))), (11, (.dat (.int .i64)))], round := none, defers := [] }], heap := [] }]
noncomputable def K116_0 : Kept := { todos := [[.inLoop (cAt Try.f116 [1, 0, 1, 0, 0]), .inBlock 0, .code (cAt Try.f116 [1, 1])]], cs := [] }
theorem E116 (G : (n : Nat) → Kept → denK (specAt S116 n) → Option (denL [(.int .i64)])) (t0 : (List Int)) (t1 : (List Int)) : enter cx122 S116 [(.int .i64)] 6000 some G 116 [(.slice (.int .i64)), (.slice (.int .i64))] (t0, (t1, ())) =
  G 0 K116_0 (((t0, t1, t0, (↑(List.length t0) : Int), 0, ()), ()), ()) := by kernel_rfl
theorem Q116_0 (G : (n : Nat) → Kept → denK (specAt S116 n) → Option (denL [(.int .i64)])) (t0 : (List Int)) (t1 : (List Int)) (t9 : (List Int)) (t10 : Int) (t11 : Int) : seg cx122 S116 [(.int .i64)] 6000 some G 0 K116_0 (((t0, (t1, (t9, (t10, (t11, ()))))), ()), ()) =
  bif decide (t11 < t10) then
 bif decide (0 ≤ t11) && decide (t11 < (↑(List.length t9) : Int)) then
  bif decide (t11 ≥ (↑(List.length t1) : Int)) then some (1, ()) else bif decide (0 ≤ t11) && decide (t11 < (↑(List.length t1) : Int)) then Option.bind (F122 (List.getD t9 (Int.toNat t11) 0, List.getD t1 (Int.toNat t11) 0, ())) fun (y : Int × Unit) => bif Prod.fst y != 0 then some (Prod.fst y, ()) else G 0 K116_0 (((t0, t1, t9, t10, IntKind.wrap IntKind.i64 (t11 + 1), ()), ()), ()) else none
 else none
 else bif decide ((↑(List.length t0) : Int) < (↑(List.length t1) : Int)) then some (-1, ()) else some (0, ()) := by kernel_rfl
noncomputable def F116 : denL [(.slice (.int .i64)), (.slice (.int .i64))] → Option (denL [(.int .i64)]) := ghost cx122 S116 6000 116 [(.slice (.int .i64)), (.slice (.int .i64))] [(.int .i64)]
noncomputable def C116 : Con := ⟨[(.slice (.int .i64)), (.slice (.int .i64))], [(.int .i64)], F116⟩
noncomputable def cx116 : Ctx := cx122.add 116 C116
def S115 : List Gh.Spec := [{ key := (6, 114, 1, 1), frs := [{ fn := 114, n := 21, regs := [(0, (.yld 1159003)), (1, (.ptr 10930001 [])), (3, (.dat (.int .i64)))], round := none, defers := [] }, { fn := 115, n := 12, regs := [(2, (.ptr 1150002 []))], round := none, defers := [] }], heap := [(1150002, .box (.row 21150010) false), (1159003, .loop 115 12 [(2, (.ptr 1150002 []))] [6] 0 false), (10930001, .box (.dat (.int .i64)) false), (21150010, .row (.int .i64) false)] }]
noncomputable def K115_0 : Kept := { todos := [[.inLoop (cAt Try.f114 [1, 0, 0]), .inBlock 0], [.inRangeFunc 1159003, .inBlock 0, .code (cAt Try.f115 [1, 1])]], cs := [noCodes, ((cAt Try.f115 [1, 0, 1, 0, 0]), (cAt Try.f115 [1, 0, 1, 0, 1])), noCodes, noCodes] }
theorem E115 (G : (n : Nat) → Kept → denK (specAt S115 n) → Option (denL [(.slice (.int .i64))])) (t0 : Int) : enter cx116 S115 [(.slice (.int .i64))] 6000 some G 115 [(.int .i64)] (t0, ()) =
  G 0 K115_0 ((((), (), 0, ()), ((), ()), ()), (), ((), ()), t0, [], ()) := by kernel_rfl
theorem Q115_0 (G : (n : Nat) → Kept → denK (specAt S115 n) → Option (denL [(.slice (.int .i64))])) (t3 : Int) (h2 : Int) (h3 : (List Int)) : seg cx116 S115 [(.slice (.int .i64))] 6000 some G 0 K115_0 ((((), ((), (t3, ()))), (((), ()), ())), ((), (((), ()), (h2, (h3, ()))))) =
  bif decide (t3 < 0) then none
 else
 bif decide (Int.fdiv h2 (2 ^ min (Int.toNat t3) 64) > 0) then
  bif decide (t3 < 0) then none
  else
   bif bitF BinOp.and IntKind.i64 (Int.fdiv h2 (2 ^ min (Int.toNat t3) 64)) 1 == 1 then bif decide (List.length h3 + List.length (List.set (List.replicate 1 0) 0 t3) ≤ 2147483648) then G 0 K115_0 ((((), (), IntKind.wrap IntKind.i64 (t3 + 1), ()), ((), ()), ()), (), ((), ()), h2, h3 ++ List.set (List.replicate 1 0) 0 t3, ()) else none
   else G 0 K115_0 ((((), (), IntKind.wrap IntKind.i64 (t3 + 1), ()), ((), ()), ()), (), ((), ()), h2, h3, ())
 else some (h3, ()) := by kernel_rfl
noncomputable def F115 : denL [(.int .i64)] → Option (denL [(.slice (.int .i64))]) := ghost cx116 S115 6000 115 [(.int .i64)] [(.slice (.int .i64))]
noncomputable def C115 : Con := ⟨[(.int .i64)], [(.slice (.int .i64))], F115⟩
noncomputable def cx115 : Ctx := cx116.add 115 C115
def S30 : List Gh.Spec := [{ key := (96000000000000000103746, 97, 4, 1), frs := [{ fn := 97, n := 54, regs := [(0, (.dat (.int .i64))), (1, (.fn 98 [] [(.ptr 300008 []), (.ptr 300003 [])])), (5, (.dat (.slice (.int .i64)))), (6, (.dat .bool)), (11, (.dat (.int .i64))), (12, (.dat (.int .i64)))], round := none, defers := [] }, { fn := 30, n := 24, regs := [(21, (.dat (.int .i64))), (22, (.fn 98 [] [(.ptr 300008 []), (.ptr 300003 [])]))], round := none, defers := [] }], heap := [(300003, .box (.dat (.int .i64)) false), (300008, .box (.fn 96 [(.dat (.hnd 0 (.struct [tBk])))] []) false)] }, { key := (99999, 0, 0, 0), frs := [], heap := [] }]
noncomputable def K30_0 : Kept := { todos := [[.inLoop (cAt Try.f97 [1, 1, 1, 0, 1, 0, 0]), .inBlock 0, .code (cAt Try.f97 [1, 1, 1, 1])], [.inRegion (oAt Try.f30 [1, 1, 1, 1, 0]) [3, 4, 5], .code (cAt Try.f30 [1, 1, 0, 1, 0, 1])]], cs := [noCodes, noCodes] }
theorem E30 (G : (n : Nat) → Kept → denK (specAt S30 n) → Option (denL [(.slice (.int .i64)), (.int .i64)])) (t0 : Bk) (t1 : Int) : enter cx115 S30 [(.slice (.int .i64)), (.int .i64)] 6000 some G 30 [tBk, (.int .i64)] (t0, (t1, ())) =
  Option.bind (F84 (t0, t1, ())) fun (y : Option (Bk × Unit) × Int × Unit) =>
 bif Prod.fst (Prod.snd y) != 0 then some ([], Prod.fst (Prod.snd y), ()) else Option.bind (F86 (Prod.fst y, ())) fun (y_1 : Int × Unit) => G 0 K30_0 (((Prod.fst y_1, ((), (), (), ()), [], false, IntKind.wrap IntKind.i64 (Prod.fst y_1 + 1), 0, ()), (Prod.fst y_1, ((), (), (), ()), ()), ()), t1, ((Prod.fst y, ()), ()), ()) := by kernel_rfl
theorem Q30_0 (G : (n : Nat) → Kept → denK (specAt S30 n) → Option (denL [(.slice (.int .i64)), (.int .i64)])) (t0 : Int) (t5 : (List Int)) (t6 : Bool) (t11 : Int) (t12 : Int) (u21 : Int) (h0 : Int) (h1a_0 : (Option (Bk × Unit))) : seg cx115 S30 [(.slice (.int .i64)), (.int .i64)] 6000 some G 0 K30_0 (((t0, (((), ((), ((), ()))), (t5, (t6, (t11, (t12, ())))))), ((u21, (((), ((), ((), ()))), ())), ())), (h0, (((h1a_0, ()), ()), ()))) =
  bif decide (t12 < t11) then
 bif bitF BinOp.andNot IntKind.i64 t12 t0 != 0 then G 0 K30_0 (((t0, ((), (), (), ()), t5, t6, t11, IntKind.wrap IntKind.i64 (t12 + 1), ()), (u21, ((), (), (), ()), ()), ()), h0, ((h1a_0, ()), ()), ())
 else
  Option.bind (F115 (t12, ())) fun (y : List Int × Unit) =>
   bif t6 then
    bif decide ((↑(List.length (Prod.fst y)) : Int) > (↑(List.length t5) : Int)) then G 0 K30_0 (((t0, ((), (), (), ()), t5, t6, t11, IntKind.wrap IntKind.i64 (t12 + 1), ()), (u21, ((), (), (), ()), ()), ()), h0, ((h1a_0, ()), ()), ())
    else
     bif (↑(List.length (Prod.fst y)) : Int) == (↑(List.length t5) : Int) then
      Option.bind (F116 (Prod.fst y, t5, ())) fun (y_1 : Int × Unit) =>
       bif decide (Prod.fst y_1 > 0) then G 0 K30_0 (((t0, ((), (), (), ()), t5, t6, t11, IntKind.wrap IntKind.i64 (t12 + 1), ()), (u21, ((), (), (), ()), ()), ()), h0, ((h1a_0, ()), ()), ())
       else
        Option.bind (F96 (h1a_0, h0, t12, ())) fun (y_2 : Bool × Unit) =>
         bif Prod.fst y_2 then G 0 K30_0 (((t0, ((), (), (), ()), Prod.fst y, true, t11, IntKind.wrap IntKind.i64 (t12 + 1), ()), (u21, ((), (), (), ()), ()), ()), h0, ((h1a_0, ()), ()), ()) else G 0 K30_0 (((t0, ((), (), (), ()), t5, t6, t11, IntKind.wrap IntKind.i64 (t12 + 1), ()), (u21, ((), (), (), ()), ()), ()), h0, ((h1a_0, ()), ()), ())
     else
      Option.bind (F96 (h1a_0, h0, t12, ())) fun (y_1 : Bool × Unit) =>
       bif Prod.fst y_1 then G 0 K30_0 (((t0, ((), (), (), ()), Prod.fst y, true, t11, IntKind.wrap IntKind.i64 (t12 + 1), ()), (u21, ((), (), (), ()), ()), ()), h0, ((h1a_0, ()), ()), ()) else G 0 K30_0 (((t0, ((), (), (), ()), t5, t6, t11, IntKind.wrap IntKind.i64 (t12 + 1), ()), (u21, ((), (), (), ()), ()), ()), h0, ((h1a_0, ()), ()), ())
   else
    Option.bind (F96 (h1a_0, h0, t12, ())) fun (y_1 : Bool × Unit) =>
     bif Prod.fst y_1 then G 0 K30_0 (((t0, ((), (), (), ()), Prod.fst y, true, t11, IntKind.wrap IntKind.i64 (t12 + 1), ()), (u21, ((), (), (), ()), ()), ()), h0, ((h1a_0, ()), ()), ()) else G 0 K30_0 (((t0, ((), (), (), ()), t5, t6, t11, IntKind.wrap IntKind.i64 (t12 + 1), ()), (u21, ((), (), (), ()), ()), ()), h0, ((h1a_0, ()), ()), ())
 else
 bif decide (0 ≤ (↑(List.length t5) : Int)) && decide ((↑(List.length t5) : Int) ≤ 2147483648) && decide ((↑(List.length t5) : Int) = (↑(List.length t5) : Int)) then
  some (List.take 0 (List.replicate (Int.toNat (↑(List.length t5) : Int)) (0 : Int)) ++ List.take (min (List.length t5) (List.length (List.replicate (Int.toNat (↑(List.length t5) : Int)) (0 : Int)))) t5 ++ List.drop (0 + min (List.length t5) (List.length (List.replicate (Int.toNat (↑(List.length t5) : Int)) (0 : Int)))) (List.replicate (Int.toNat (↑(List.length t5) : Int)) (0 : Int)), 0, ())
 else none := by kernel_rfl
noncomputable def F30 : denL [tBk, (.int .i64)] → Option (denL [(.slice (.int .i64)), (.int .i64)]) := ghost cx115 S30 6000 30 [tBk, (.int .i64)] [(.slice (.int .i64)), (.int .i64)]
noncomputable def C30 : Con := ⟨[tBk, (.int .i64)], [(.slice (.int .i64)), (.int .i64)], F30⟩
noncomputable def cx30 : Ctx := cx115.add 30 C30
def S32 : List Gh.Spec := [{ key := (10, 114, 1, 1), frs := [{ fn := 114, n := 21, regs := [(0, (.yld 329006)), (1, (.ptr 10930001 [])), (3, (.dat (.int .i64)))], round := none, defers := [] }, { fn := 32, n := 35, regs := [(4, (.ptr 320004 []))], round := none, defers := [] }], heap := [(320003, .box (.dat (.int .i64)) false), (320004, .box (.row 20320033) false), (320006, .box (.dat (.hnd 0 (.struct [tBk]))) false), (329006, .loop 32 35 [(3, (.ptr 320003 [])), (4, (.ptr 320004 [])), (6, (.ptr 320006 []))] [20] 0 false), (10930001, .box (.dat (.int .i64)) false), (20320033, .row (.int .i64) false)] }, { key := (99999, 0, 0, 0), frs := [], heap := [] }]
noncomputable def K32_0 : Kept := { todos := [[.inLoop (cAt Try.f114 [1, 0, 0]), .inBlock 0], [.inRangeFunc 329006, .inBlock 0, .code (cAt Try.f32 [1, 1, 1, 1])]], cs := [noCodes, noCodes, noCodes, ((cAt Try.f32 [1, 1, 1, 0, 1, 0, 0]), (cAt Try.f32 [1, 1, 1, 0, 1, 0, 1])), noCodes, noCodes] }
theorem E32 (G : (n : Nat) → Kept → denK (specAt S32 n) → Option (denL [(.slice (.int .i64)), (.int .i64)])) (t0 : Bk) (t1 : Int) : enter cx30 S32 [(.slice (.int .i64)), (.int .i64)] 6000 some G 32 [tBk, (.int .i64)] (t0, (t1, ())) =
  Option.bind (F84 (t0, t1, ())) fun (y : Option (Bk × Unit) × Int × Unit) => bif Prod.fst (Prod.snd y) != 0 then some ([], Prod.fst (Prod.snd y), ()) else Option.bind (F86 (Prod.fst y, ())) fun (y_1 : Int × Unit) => G 0 K32_0 ((((), (), 0, ()), ((), ()), ()), t1, (), Prod.fst y, ((), (), (), ()), Prod.fst y_1, [], ()) := by kernel_rfl
theorem Q32_0 (G : (n : Nat) → Kept → denK (specAt S32 n) → Option (denL [(.slice (.int .i64)), (.int .i64)])) (t3 : Int) (h0 : Int) (h2 : (Option (Bk × Unit))) (h4 : Int) (h5 : (List Int)) : seg cx30 S32 [(.slice (.int .i64)), (.int .i64)] 6000 some G 0 K32_0 ((((), ((), (t3, ()))), (((), ()), ())), (h0, ((), (h2, (((), ((), ((), ()))), (h4, (h5, ()))))))) =
  bif decide (t3 < 0) then none
 else
 bif decide (Int.fdiv h4 (2 ^ min (Int.toNat t3) 64) > 0) then
  bif decide (t3 < 0) then none
  else
   bif bitF BinOp.and IntKind.i64 (Int.fdiv h4 (2 ^ min (Int.toNat t3) 64)) 1 == 1 then
    Option.bind (F86 (h2, ())) fun (y : Int × Unit) =>
     bif decide (t3 < 0) then none
     else
      Option.bind (F96 (h2, h0, bitF BinOp.andNot IntKind.i64 (Prod.fst y) (IntKind.wrap IntKind.i64 (1 * 2 ^ min (Int.toNat t3) 64)), ())) fun (y : Bool × Unit) =>
       bif !Prod.fst y then bif decide (List.length h5 + List.length (List.set (List.replicate 1 0) 0 t3) ≤ 2147483648) then G 0 K32_0 ((((), (), IntKind.wrap IntKind.i64 (t3 + 1), ()), ((), ()), ()), h0, (), h2, ((), (), (), ()), h4, h5 ++ List.set (List.replicate 1 0) 0 t3, ()) else none
       else G 0 K32_0 ((((), (), IntKind.wrap IntKind.i64 (t3 + 1), ()), ((), ()), ()), h0, (), h2, ((), (), (), ()), h4, h5, ())
   else G 0 K32_0 ((((), (), IntKind.wrap IntKind.i64 (t3 + 1), ()), ((), ()), ()), h0, (), h2, ((), (), (), ()), h4, h5, ())
 else some (h5, 0, ()) := by kernel_rfl
noncomputable def F32 : denL [tBk, (.int .i64)] → Option (denL [(.slice (.int .i64)), (.int .i64)]) := ghost cx30 S32 6000 32 [tBk, (.int .i64)] [(.slice (.int .i64)), (.int .i64)]
noncomputable def C32 : Con := ⟨[tBk, (.int .i64)], [(.slice (.int .i64)), (.int .i64)], F32⟩
noncomputable def cx32 : Ctx := cx30.add 32 C32
def S34 : List Gh.Spec := [{ key := (100002, 97, 4, 1), frs := [{ fn := 97, n := 54, regs := [(0, (.dat (.int .i64))), (1, (.fn 101 [] [(.ptr 340006 []), (.ptr 340003 []), (.ptr 340008 [])])), (5, (.dat (.slice (.int .i64)))), (6, (.dat .bool)), (11, (.dat (.int .i64))), (12, (.dat (.int .i64)))], round := none, defers := [] }, { fn := 34, n := 26, regs := [(23, (.dat (.int .i64))), (24, (.fn 101 [] [(.ptr 340006 []), (.ptr 340003 []), (.ptr 340008 [])]))], round := none, defers := [] }], heap := [(340003, .box (.dat (.int .i64)) false), (340006, .box (.dat (.hnd 0 (.struct [tBk]))) false), (340008, .box (.dat (.int .i64)) false)] }, { key := (99999, 0, 0, 0), frs := [], heap := [] }]
noncomputable def K34_0 : Kept := { todos := [[.inLoop (cAt Try.f97 [1, 1, 1, 0, 1, 0, 0]), .inBlock 0, .code (cAt Try.f97 [1, 1, 1, 1])], [.inRegion (oAt Try.f34 [1, 1, 1, 1, 0]) [2, 3, 4], .code (cAt Try.f34 [1, 1, 0, 1, 0, 1])]], cs := [noCodes, noCodes, noCodes] }
theorem E34 (G : (n : Nat) → Kept → denK (specAt S34 n) → Option (denL [(.slice (.int .i64)), (.int .i64)])) (t0 : Bk) (t1 : Int) : enter cx32 S34 [(.slice (.int .i64)), (.int .i64)] 6000 some G 34 [tBk, (.int .i64)] (t0, (t1, ())) =
  Option.bind (F88 (t0, t1, (↑(List.length (Prod.fst (Prod.snd t0))) : Int), ())) fun (y : Option (Bk × Unit) × Int × Unit) =>
 bif Prod.fst (Prod.snd y) != 0 then some ([], Prod.fst (Prod.snd y), ()) else Option.bind (F86 (Prod.fst y, ())) fun (y_1 : Int × Unit) => G 0 K34_0 (((Prod.fst y_1, ((), (), (), (), ()), [], false, IntKind.wrap IntKind.i64 (Prod.fst y_1 + 1), 0, ()), (Prod.fst y_1, ((), (), (), (), ()), ()), ()), t1, Prod.fst y, Prod.fst y_1, ()) := by kernel_rfl
theorem Q34_0 (G : (n : Nat) → Kept → denK (specAt S34 n) → Option (denL [(.slice (.int .i64)), (.int .i64)])) (t0 : Int) (t5 : (List Int)) (t6 : Bool) (t11 : Int) (t12 : Int) (u23 : Int) (h0 : Int) (h1 : (Option (Bk × Unit))) (h2 : Int) : seg cx32 S34 [(.slice (.int .i64)), (.int .i64)] 6000 some G 0 K34_0 (((t0, (((), ((), ((), ((), ())))), (t5, (t6, (t11, (t12, ())))))), ((u23, (((), ((), ((), ((), ())))), ())), ())), (h0, (h1, (h2, ())))) =
  bif decide (t12 < t11) then
 bif bitF BinOp.andNot IntKind.i64 t12 t0 != 0 then G 0 K34_0 (((t0, ((), (), (), (), ()), t5, t6, t11, IntKind.wrap IntKind.i64 (t12 + 1), ()), (u23, ((), (), (), (), ()), ()), ()), h0, h1, h2, ())
 else
  Option.bind (F115 (t12, ())) fun (y : List Int × Unit) =>
   bif t6 then
    bif decide ((↑(List.length (Prod.fst y)) : Int) > (↑(List.length t5) : Int)) then G 0 K34_0 (((t0, ((), (), (), (), ()), t5, t6, t11, IntKind.wrap IntKind.i64 (t12 + 1), ()), (u23, ((), (), (), (), ()), ()), ()), h0, h1, h2, ())
    else
     bif (↑(List.length (Prod.fst y)) : Int) == (↑(List.length t5) : Int) then
      Option.bind (F116 (Prod.fst y, t5, ())) fun (y_1 : Int × Unit) =>
       bif decide (Prod.fst y_1 > 0) then G 0 K34_0 (((t0, ((), (), (), (), ()), t5, t6, t11, IntKind.wrap IntKind.i64 (t12 + 1), ()), (u23, ((), (), (), (), ()), ()), ()), h0, h1, h2, ())
       else
        Option.bind (F96 (h1, h0, bitF BinOp.andNot IntKind.i64 h2 t12, ())) fun (y_2 : Bool × Unit) =>
         bif !Prod.fst y_2 then G 0 K34_0 (((t0, ((), (), (), (), ()), Prod.fst y, true, t11, IntKind.wrap IntKind.i64 (t12 + 1), ()), (u23, ((), (), (), (), ()), ()), ()), h0, h1, h2, ()) else G 0 K34_0 (((t0, ((), (), (), (), ()), t5, t6, t11, IntKind.wrap IntKind.i64 (t12 + 1), ()), (u23, ((), (), (), (), ()), ()), ()), h0, h1, h2, ())
     else
      Option.bind (F96 (h1, h0, bitF BinOp.andNot IntKind.i64 h2 t12, ())) fun (y_1 : Bool × Unit) =>
       bif !Prod.fst y_1 then G 0 K34_0 (((t0, ((), (), (), (), ()), Prod.fst y, true, t11, IntKind.wrap IntKind.i64 (t12 + 1), ()), (u23, ((), (), (), (), ()), ()), ()), h0, h1, h2, ()) else G 0 K34_0 (((t0, ((), (), (), (), ()), t5, t6, t11, IntKind.wrap IntKind.i64 (t12 + 1), ()), (u23, ((), (), (), (), ()), ()), ()), h0, h1, h2, ())
   else
    Option.bind (F96 (h1, h0, bitF BinOp.andNot IntKind.i64 h2 t12, ())) fun (y_1 : Bool × Unit) =>
     bif !Prod.fst y_1 then G 0 K34_0 (((t0, ((), (), (), (), ()), Prod.fst y, true, t11, IntKind.wrap IntKind.i64 (t12 + 1), ()), (u23, ((), (), (), (), ()), ()), ()), h0, h1, h2, ()) else G 0 K34_0 (((t0, ((), (), (), (), ()), t5, t6, t11, IntKind.wrap IntKind.i64 (t12 + 1), ()), (u23, ((), (), (), (), ()), ()), ()), h0, h1, h2, ())
 else
 bif decide (0 ≤ (↑(List.length t5) : Int)) && decide ((↑(List.length t5) : Int) ≤ 2147483648) && decide ((↑(List.length t5) : Int) = (↑(List.length t5) : Int)) then
  some (List.take 0 (List.replicate (Int.toNat (↑(List.length t5) : Int)) (0 : Int)) ++ List.take (min (List.length t5) (List.length (List.replicate (Int.toNat (↑(List.length t5) : Int)) (0 : Int)))) t5 ++ List.drop (0 + min (List.length t5) (List.length (List.replicate (Int.toNat (↑(List.length t5) : Int)) (0 : Int)))) (List.replicate (Int.toNat (↑(List.length t5) : Int)) (0 : Int)), 0, ())
 else none := by kernel_rfl
noncomputable def F34 : denL [tBk, (.int .i64)] → Option (denL [(.slice (.int .i64)), (.int .i64)]) := ghost cx32 S34 6000 34 [tBk, (.int .i64)] [(.slice (.int .i64)), (.int .i64)]
noncomputable def C34 : Con := ⟨[tBk, (.int .i64)], [(.slice (.int .i64)), (.int .i64)], F34⟩
noncomputable def cx34 : Ctx := cx32.add 34 C34
def S36 : List Gh.Spec := [{ key := (100002, 97, 4, 1), frs := [{ fn := 97, n := 54, regs := [(0, (.dat (.int .i64))), (1, (.fn 102 [] [(.ptr 360004 []), (.ptr 360006 [])])), (5, (.dat (.slice (.int .i64)))), (6, (.dat .bool)), (11, (.dat (.int .i64))), (12, (.dat (.int .i64)))], round := none, defers := [] }, { fn := 36, n := 20, regs := [(17, (.dat (.int .i64))), (18, (.fn 102 [] [(.ptr 360004 []), (.ptr 360006 [])]))], round := none, defers := [] }], heap := [(360004, .box (.dat (.hnd 0 (.struct [tBk]))) false), (360006, .box (.dat (.int .i64)) false)] }, { key := (99999, 0, 0, 0), frs := [], heap := [] }]
noncomputable def K36_0 : Kept := { todos := [[.inLoop (cAt Try.f97 [1, 1, 1, 0, 1, 0, 0]), .inBlock 0, .code (cAt Try.f97 [1, 1, 1, 1])], [.inRegion (oAt Try.f36 [1, 1, 1, 1, 0]) [2, 3, 4], .code (cAt Try.f36 [1, 1, 0, 1, 0, 1])]], cs := [noCodes, noCodes] }
theorem E36 (G : (n : Nat) → Kept → denK (specAt S36 n) → Option (denL [(.slice (.int .i64)), (.int .i64)])) (t0 : Bk) : enter cx34 S36 [(.slice (.int .i64)), (.int .i64)] 6000 some G 36 [tBk] (t0, ()) =
  Option.bind (F88 (t0, 0, 1, ())) fun (y : Option (Bk × Unit) × Int × Unit) =>
 bif Prod.fst (Prod.snd y) != 0 then some ([], Prod.fst (Prod.snd y), ()) else Option.bind (F86 (Prod.fst y, ())) fun (y_1 : Int × Unit) => G 0 K36_0 (((Prod.fst y_1, ((), (), (), ()), [], false, IntKind.wrap IntKind.i64 (Prod.fst y_1 + 1), 0, ()), (Prod.fst y_1, ((), (), (), ()), ()), ()), Prod.fst y, Prod.fst y_1, ()) := by kernel_rfl
theorem Q36_0 (G : (n : Nat) → Kept → denK (specAt S36 n) → Option (denL [(.slice (.int .i64)), (.int .i64)])) (t0 : Int) (t5 : (List Int)) (t6 : Bool) (t11 : Int) (t12 : Int) (u17 : Int) (h0 : (Option (Bk × Unit))) (h1 : Int) : seg cx34 S36 [(.slice (.int .i64)), (.int .i64)] 6000 some G 0 K36_0 (((t0, (((), ((), ((), ()))), (t5, (t6, (t11, (t12, ())))))), ((u17, (((), ((), ((), ()))), ())), ())), (h0, (h1, ()))) =
  bif decide (t12 < t11) then
 bif bitF BinOp.andNot IntKind.i64 t12 t0 != 0 then G 0 K36_0 (((t0, ((), (), (), ()), t5, t6, t11, IntKind.wrap IntKind.i64 (t12 + 1), ()), (u17, ((), (), (), ()), ()), ()), h0, h1, ())
 else
  Option.bind (F115 (t12, ())) fun (y : List Int × Unit) =>
   bif t6 then
    bif decide ((↑(List.length (Prod.fst y)) : Int) > (↑(List.length t5) : Int)) then G 0 K36_0 (((t0, ((), (), (), ()), t5, t6, t11, IntKind.wrap IntKind.i64 (t12 + 1), ()), (u17, ((), (), (), ()), ()), ()), h0, h1, ())
    else
     bif (↑(List.length (Prod.fst y)) : Int) == (↑(List.length t5) : Int) then
      Option.bind (F116 (Prod.fst y, t5, ())) fun (y_1 : Int × Unit) =>
       bif decide (Prod.fst y_1 > 0) then G 0 K36_0 (((t0, ((), (), (), ()), t5, t6, t11, IntKind.wrap IntKind.i64 (t12 + 1), ()), (u17, ((), (), (), ()), ()), ()), h0, h1, ())
       else
        Option.bind (F89 (h0, bitF BinOp.andNot IntKind.i64 h1 t12, ())) fun (y_2 : Int × Int × Int × Bool × Unit) =>
         bif !Prod.fst (Prod.snd (Prod.snd (Prod.snd y_2))) then G 0 K36_0 (((t0, ((), (), (), ()), Prod.fst y, true, t11, IntKind.wrap IntKind.i64 (t12 + 1), ()), (u17, ((), (), (), ()), ()), ()), h0, h1, ()) else G 0 K36_0 (((t0, ((), (), (), ()), t5, t6, t11, IntKind.wrap IntKind.i64 (t12 + 1), ()), (u17, ((), (), (), ()), ()), ()), h0, h1, ())
     else
      Option.bind (F89 (h0, bitF BinOp.andNot IntKind.i64 h1 t12, ())) fun (y_1 : Int × Int × Int × Bool × Unit) =>
       bif !Prod.fst (Prod.snd (Prod.snd (Prod.snd y_1))) then G 0 K36_0 (((t0, ((), (), (), ()), Prod.fst y, true, t11, IntKind.wrap IntKind.i64 (t12 + 1), ()), (u17, ((), (), (), ()), ()), ()), h0, h1, ()) else G 0 K36_0 (((t0, ((), (), (), ()), t5, t6, t11, IntKind.wrap IntKind.i64 (t12 + 1), ()), (u17, ((), (), (), ()), ()), ()), h0, h1, ())
   else
    Option.bind (F89 (h0, bitF BinOp.andNot IntKind.i64 h1 t12, ())) fun (y_1 : Int × Int × Int × Bool × Unit) =>
     bif !Prod.fst (Prod.snd (Prod.snd (Prod.snd y_1))) then G 0 K36_0 (((t0, ((), (), (), ()), Prod.fst y, true, t11, IntKind.wrap IntKind.i64 (t12 + 1), ()), (u17, ((), (), (), ()), ()), ()), h0, h1, ()) else G 0 K36_0 (((t0, ((), (), (), ()), t5, t6, t11, IntKind.wrap IntKind.i64 (t12 + 1), ()), (u17, ((), (), (), ()), ()), ()), h0, h1, ())
 else
 bif decide (0 ≤ (↑(List.length t5) : Int)) && decide ((↑(List.length t5) : Int) ≤ 2147483648) && decide ((↑(List.length t5) : Int) = (↑(List.length t5) : Int)) then
  some (List.take 0 (List.replicate (Int.toNat (↑(List.length t5) : Int)) (0 : Int)) ++ List.take (min (List.length t5) (List.length (List.replicate (Int.toNat (↑(List.length t5) : Int)) (0 : Int)))) t5 ++ List.drop (0 + min (List.length t5) (List.length (List.replicate (Int.toNat (↑(List.length t5) : Int)) (0 : Int)))) (List.replicate (Int.toNat (↑(List.length t5) : Int)) (0 : Int)), 0, ())
 else none := by kernel_rfl
noncomputable def F36 : denL [tBk] → Option (denL [(.slice (.int .i64)), (.int .i64)]) := ghost cx34 S36 6000 36 [tBk] [(.slice (.int .i64)), (.int .i64)]
noncomputable def C36 : Con := ⟨[tBk], [(.slice (.int .i64)), (.int .i64)], F36⟩
noncomputable def cx36 : Ctx := cx34.add 36 C36
def S28 : List Gh.Spec := [{ key := (0, 28, 8, 1), frs := [{ fn := 28, n := 61, regs := [(4, (.row 280058)), (7, (.ptr 280007 [])), (8, (.ptr 280008 [])), (38, (.dat (.int .i64))), (39, (.dat (.int .i64)))], round := none, defers := [] }], heap := [(280007, .box (.dat (.arr 6 tFd)) false), (280008, .box (.dat (.arr 6 tFd)) false), (280058, .row (.int .i64) false)] }, { key := (99999, 0, 0, 0), frs := [], heap := [] }]
noncomputable def K28_0 : Kept := { todos := [[.inLoop (cAt Try.f28 [1, 1, 1, 1, 1, 0, 1, 0, 0]), .inBlock 0, .code (cAt Try.f28 [1, 1, 1, 1, 1, 1])]], cs := [noCodes, noCodes, noCodes] }
theorem E28 (G : (n : Nat) → Kept → denK (specAt S28 n) → Option (denL [(.slice (.int .i64)), (.int .i64)])) (t0 : Bk) (t1 : Int) : enter cx36 S28 [(.slice (.int .i64)), (.int .i64)] 6000 some G 28 [tBk, (.int .i64)] (t0, (t1, ())) =
  Option.bind (F88 (t0, t1, (↑(List.length (Prod.fst t0)) : Int), ())) fun (y : Option (Bk × Unit) × Int × Unit) =>
 bif Prod.fst (Prod.snd y) != 0 then some ([], Prod.fst (Prod.snd y), ())
 else
  Option.bind (F86 (Prod.fst y, ())) fun (y_1 : Int × Unit) =>
   Option.bind (F85 (Prod.fst y, Prod.fst y_1, ())) fun (y_2 : List Fd × Unit) =>
    Option.bind (F86 (Prod.fst y, ())) fun (y_3 : Int × Unit) =>
     bif decide (t1 < 0) then none
     else
      Option.bind (F85 (Prod.fst y, bitF BinOp.andNot IntKind.i64 (Prod.fst y_3) (IntKind.wrap IntKind.i64 (1 * 2 ^ min (Int.toNat t1) 64)), ())) fun (y : List Fd × Unit) =>
       bif eqD (Ty.arr 6 (Ty.struct [Ty.bool, Ty.int IntKind.i64])) (Prod.fst y_2) (Prod.fst y) then some ([], 0, ()) else G 0 K28_0 ((((), (), (), (↑(List.length (Prod.fst (Prod.snd t0))) : Int), 0, ()), ()), Prod.fst y_2, Prod.fst y, [], ()) := by kernel_rfl
theorem Q28_0 (G : (n : Nat) → Kept → denK (specAt S28 n) → Option (denL [(.slice (.int .i64)), (.int .i64)])) (t38 : Int) (t39 : Int) (h0 : (List Fd)) (h1 : (List Fd)) (h2 : (List Int)) : seg cx36 S28 [(.slice (.int .i64)), (.int .i64)] 6000 some G 0 K28_0 ((((), ((), ((), (t38, (t39, ()))))), ()), (h0, (h1, (h2, ())))) =
  bif decide (t39 < t38) then
 bif decide (0 ≤ t39) && decide (t39 < 6) then
  bif decide (Int.toNat t39 < 6) then
   bif Prod.fst (List.getD h0 (Int.toNat t39) (false, 0, ())) then
    bif decide (0 ≤ t39) && decide (t39 < 6) then
     bif decide (Int.toNat t39 < 6) then
      bif decide (0 ≤ t39) && decide (t39 < 6) then
       bif decide (Int.toNat t39 < 6) then
        bif !eqD (Ty.struct [Ty.bool, Ty.int IntKind.i64]) (List.getD h0 (Int.toNat t39) (false, 0, ())) (List.getD h1 (Int.toNat t39) (false, 0, ())) then
         bif decide (List.length h2 + List.length (List.set (List.replicate 1 0) 0 t39) ≤ 2147483648) then G 0 K28_0 ((((), (), (), t38, IntKind.wrap IntKind.i64 (t39 + 1), ()), ()), h0, h1, h2 ++ List.set (List.replicate 1 0) 0 t39, ()) else none
        else G 0 K28_0 ((((), (), (), t38, IntKind.wrap IntKind.i64 (t39 + 1), ()), ()), h0, h1, h2, ())
       else none
      else none
     else none
    else none
   else G 0 K28_0 ((((), (), (), t38, IntKind.wrap IntKind.i64 (t39 + 1), ()), ()), h0, h1, h2, ())
  else none
 else none
 else some (h2, 0, ()) := by kernel_rfl
noncomputable def F28 : denL [tBk, (.int .i64)] → Option (denL [(.slice (.int .i64)), (.int .i64)]) := ghost cx36 S28 6000 28 [tBk, (.int .i64)] [(.slice (.int .i64)), (.int .i64)]
noncomputable def C28 : Con := ⟨[tBk, (.int .i64)], [(.slice (.int .i64)), (.int .i64)], F28⟩
noncomputable def cx28 : Ctx := cx36.add 28 C28
end Go.Proofs.Ytallblpnlefpeaa
