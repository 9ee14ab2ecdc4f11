/- What the ghost comes to: the outright statements. Conditions: none (equations, each by computation). -/
import Derived.Test.YtjigflnjgmgmnaaDoorClHa
namespace Go.Proofs.YtjigflnjgmgmnaaDoor
open Go Go.Gh Go.Proofs
def S9 : List Gh.Spec := [{ key := (0, 9, 14, 1), frs := [{ fn := 9, n := 214, regs := [(7, (.dat (.slice (.int .i64)))), (8, (.ptr 90008 [])), (11, (.ptr 90011 [])), (12, (.ptr 90012 [])), (14, (.dat (.slice (.int .i64)))), (15, (.dat (.slice (.int .i64)))), (17, (.dat (.slice (.int .i64)))), (18, (.dat (.slice (.int .i64)))), (20, (.dat (.int .i64))), (21, (.dat (.int .i64))), (22, (.dat (.int .i64)))], round := none, defers := [] }], heap := [(90008, .box (.dat (.struct [(.int .i64), (.slice (.struct [(.int .i64), (.int .i64)]))])) false), (90011, .box (.dat (.struct [(.int .i64), (.int .i64)])) false), (90012, .box (.dat (.struct [(.int .i64), (.int .i64)])) false)] }, { key := (0, 9, 21, 1), frs := [{ fn := 9, n := 214, regs := [(7, (.dat (.slice (.int .i64)))), (8, (.ptr 90008 [])), (14, (.dat (.slice (.int .i64)))), (15, (.dat (.slice (.int .i64)))), (17, (.dat (.slice (.int .i64)))), (18, (.dat (.slice (.int .i64)))), (21, (.dat (.int .i64))), (24, (.dat (.int .i64)))], round := none, defers := [] }], heap := [(90008, .box (.dat (.struct [(.int .i64), (.slice (.struct [(.int .i64), (.int .i64)]))])) false)] }]
noncomputable def K9_0 : Kept := { todos := [[.inLoop (cAt Tryd.f9 [1, 1, 1, 1, 1, 1, 1, 1, 1, 1, 0, 1, 0, 0]), .inBlock 0, .code (cAt Tryd.f9 [1, 1, 1, 1, 1, 1, 1, 1, 1, 1, 1])]], cs := [noCodes, noCodes, noCodes] }
noncomputable def K9_1 : Kept := { todos := [[.inLoop (cAt Tryd.f9 [1, 1, 1, 1, 1, 1, 1, 1, 1, 1, 1, 1, 1, 0, 1, 0, 0]), .inBlock 2, .code (cAt Tryd.f9 [1, 1, 1, 1, 1, 1, 1, 1, 1, 1, 1, 1, 1, 1])]], cs := [noCodes] }
theorem E9 (G : (n : Nat) → Kept → denK (specAt S9 n) → Option (denL [.bool])) (t0 : (Int × (List (Int × Int × Unit)) × Unit)) (t1 : (List Int)) : enter cx49 S9 [.bool] 6000 some G 9 [(.struct [(.int .i64), (.slice (.struct [(.int .i64), (.int .i64)]))]), (.slice (.int .u8))] (t0, (t1, ())) =
    Option.bind (F39 (t0, ())) fun (y : Bool × Unit) =>
  bif !Prod.fst y then Option.bind (F35 (t0, ())) fun (y : List Int × Int × Unit) => bif Prod.fst (Prod.snd y) != 0 then Option.bind (F22 ()) fun (y : Bool × Unit) => some (Prod.fst y, ()) else some (false, ())
  else
    Option.bind (F40 (t0, t1, ())) fun (y : List Int × Unit) =>
      Option.bind (F41 (t0, Prod.fst y, t1, ())) fun (y_1 : (Int × List (Int × Int × Unit) × Unit) × Unit) =>
        Option.bind (F35 (Prod.fst y_1, ())) fun (y_2 : List Int × Int × Unit) =>
          Option.bind (F23 (Prod.fst y_1, ())) fun (y_3 : (Int × Int × Unit) × (Int × Int × Unit) × Int × Unit) =>
            Option.bind (F28 (Prod.fst y_1, ())) fun (y_4 : List Int × List Int × Int × Unit) =>
              Option.bind (F31 (Prod.fst y_1, ())) fun (y_5 : List Int × List Int × Int × Unit) =>
                bif Prod.fst (Prod.snd y_2) != 0 then some (false, ())
                else
                  bif Prod.fst (Prod.snd (Prod.snd y_3)) != 0 then some (false, ())
                  else
                    bif Prod.fst (Prod.snd (Prod.snd y_4)) != 0 then some (false, ())
                    else
                      bif Prod.fst (Prod.snd (Prod.snd y_5)) != 0 then some (false, ())
                      else
                        bif decide ((↑(List.length (Prod.fst y_2)) : Int) > 0) then some (false, ())
                        else
                          Option.bind (F42 (Prod.fst y_3, (↑(List.length (Prod.fst (Prod.snd (Prod.fst y_1)))) : Int), ())) fun (y_6 : Bool × Unit) =>
                            bif !Prod.fst y_6 then some (false, ())
                            else
                              Option.bind (F42 (Prod.fst (Prod.snd y_3), (↑(List.length (Prod.fst (Prod.snd (Prod.fst y_1)))) : Int), ())) fun (y_7 : Bool × Unit) => bif !Prod.fst y_7 then some (false, ()) else G 0 K9_0 (((Prod.fst y, (), (), (), Prod.fst y_4, Prod.fst (Prod.snd y_4), Prod.fst y_5, Prod.fst (Prod.snd y_5), 0, 0, 0, ()), ()), Prod.fst y_1, Prod.fst y_3, Prod.fst (Prod.snd y_3), ()) := by kernel_rfl
theorem Q9_0 (G : (n : Nat) → Kept → denK (specAt S9 n) → Option (denL [.bool])) (t7 : (List Int)) (t14 : (List Int)) (t15 : (List Int)) (t17 : (List Int)) (t18 : (List Int)) (t20 : Int) (t21 : Int) (t22 : Int) (h0 : (Int × (List (Int × Int × Unit)) × Unit)) (h1 : (Int × Int × Unit)) (h2 : (Int × Int × Unit)) : seg cx49 S9 [.bool] 6000 some G 0 K9_0 (((t7, ((), ((), ((), (t14, (t15, (t17, (t18, (t20, (t21, (t22, ()))))))))))), ()), (h0, (h1, (h2, ())))) =
    bif decide (t22 < (↑(List.length t7) : Int)) then
  bif decide (0 ≤ t22) && decide (t22 < (↑(List.length t7) : Int)) then
    bif decide (0 ≤ t22) && decide (t22 < (↑(List.length t7) : Int)) then G 0 K9_0 (((t7, (), (), (), t14, t15, t17, t18, IntKind.wrap IntKind.i64 (t20 + List.getD t7 (Int.toNat t22) 0), if List.getD t7 (Int.toNat t22) 0 > t21 then List.getD t7 (Int.toNat t22) 0 else t21, IntKind.wrap IntKind.i64 (t22 + 1), ()), ()), h0, h1, h2, ()) else none
  else none
  else Option.bind (F43 (t20, (↑(List.length t7) : Int), ())) fun (y : (Int × Int × Unit) × Unit) => Option.bind (F44 (Prod.fst y, Prod.fst y, h1, h2, ())) fun (y : Bool × Unit) => bif !Prod.fst y then some (false, ()) else G 1 K9_1 (((t7, (), t14, t15, t17, t18, t21, 0, ()), ()), h0, ()) := by kernel_rfl
theorem Q9_1 (G : (n : Nat) → Kept → denK (specAt S9 n) → Option (denL [.bool])) (t7 : (List Int)) (t14 : (List Int)) (t15 : (List Int)) (t17 : (List Int)) (t18 : (List Int)) (t21 : Int) (t24 : Int) (h0 : (Int × (List (Int × Int × Unit)) × Unit)) : seg cx49 S9 [.bool] 6000 some G 1 K9_1 (((t7, ((), (t14, (t15, (t17, (t18, (t21, (t24, ())))))))), ()), (h0, ())) =
    bif decide (t24 < (↑(List.length t7) : Int)) then
  Option.bind (F20 (h0, t24, ())) fun (y : (Int × Int × Unit) × Int × Unit) =>
    bif Prod.fst (Prod.snd y) != 0 then some (false, ())
    else
      bif decide (0 ≤ t24) && decide (t24 < (↑(List.length t7) : Int)) then
        Option.bind (F45 (List.getD t7 (Int.toNat t24) 0, Prod.fst y, ())) fun (y : Bool × Unit) =>
          bif !Prod.fst y then some (false, ())
          else
            bif decide (0 ≤ t24) && decide (t24 < (↑(List.length t7) : Int)) then
              bif List.getD t7 (Int.toNat t24) 0 == t21 then
                Option.bind (F46 (t15, t24, ())) fun (y : Bool × Unit) =>
                  bif !Prod.fst y then some (false, ())
                  else
                    bif decide (0 ≤ t24) && decide (t24 < (↑(List.length t7) : Int)) then
                      bif decide (List.getD t7 (Int.toNat t24) 0 < t21) then
                        Option.bind (F46 (t14, t24, ())) fun (y : Bool × Unit) =>
                          bif Prod.fst y then some (false, ())
                          else
                            bif decide (t24 > 0) then
                              bif decide (0 ≤ t24) && decide (t24 < (↑(List.length t7) : Int)) then
                                bif decide (0 ≤ if IntKind.wrap IntKind.i64 (t24 - 1) > 0 then IntKind.wrap IntKind.i64 (t24 - 1) else 0) && decide ((if IntKind.wrap IntKind.i64 (t24 - 1) > 0 then IntKind.wrap IntKind.i64 (t24 - 1) else 0) < (↑(List.length t7) : Int)) then
                                  bif decide (List.getD t7 (Int.toNat t24) 0 > List.getD t7 (Int.toNat (if IntKind.wrap IntKind.i64 (t24 - 1) > 0 then IntKind.wrap IntKind.i64 (t24 - 1) else 0)) 0) then
                                    Option.bind (F46 (t18, t24, ())) fun (y : Bool × Unit) =>
                                      bif !Prod.fst y then some (false, ())
                                      else
                                        bif !decide (List.getD t7 (Int.toNat t24) 0 > List.getD t7 (Int.toNat (if IntKind.wrap IntKind.i64 (t24 - 1) > 0 then IntKind.wrap IntKind.i64 (t24 - 1) else 0)) 0) then
                                          Option.bind (F46 (t17, t24, ())) fun (y : Bool × Unit) => bif Prod.fst y then some (false, ()) else G 1 K9_1 (((t7, (), t14, t15, t17, t18, t21, IntKind.wrap IntKind.i64 (t24 + 1), ()), ()), h0, ())
                                        else G 1 K9_1 (((t7, (), t14, t15, t17, t18, t21, IntKind.wrap IntKind.i64 (t24 + 1), ()), ()), h0, ())
                                  else
                                    bif !decide (List.getD t7 (Int.toNat t24) 0 > List.getD t7 (Int.toNat (if IntKind.wrap IntKind.i64 (t24 - 1) > 0 then IntKind.wrap IntKind.i64 (t24 - 1) else 0)) 0) then
                                      Option.bind (F46 (t17, t24, ())) fun (y : Bool × Unit) => bif Prod.fst y then some (false, ()) else G 1 K9_1 (((t7, (), t14, t15, t17, t18, t21, IntKind.wrap IntKind.i64 (t24 + 1), ()), ()), h0, ())
                                    else G 1 K9_1 (((t7, (), t14, t15, t17, t18, t21, IntKind.wrap IntKind.i64 (t24 + 1), ()), ()), h0, ())
                                else none
                              else none
                            else Option.bind (F46 (t17, t24, ())) fun (y : Bool × Unit) => bif Prod.fst y then some (false, ()) else G 1 K9_1 (((t7, (), t14, t15, t17, t18, t21, IntKind.wrap IntKind.i64 (t24 + 1), ()), ()), h0, ())
                      else
                        bif decide (t24 > 0) then
                          bif decide (0 ≤ t24) && decide (t24 < (↑(List.length t7) : Int)) then
                            bif decide (0 ≤ if IntKind.wrap IntKind.i64 (t24 - 1) > 0 then IntKind.wrap IntKind.i64 (t24 - 1) else 0) && decide ((if IntKind.wrap IntKind.i64 (t24 - 1) > 0 then IntKind.wrap IntKind.i64 (t24 - 1) else 0) < (↑(List.length t7) : Int)) then
                              bif decide (List.getD t7 (Int.toNat t24) 0 > List.getD t7 (Int.toNat (if IntKind.wrap IntKind.i64 (t24 - 1) > 0 then IntKind.wrap IntKind.i64 (t24 - 1) else 0)) 0) then
                                Option.bind (F46 (t18, t24, ())) fun (y : Bool × Unit) =>
                                  bif !Prod.fst y then some (false, ())
                                  else
                                    bif !decide (List.getD t7 (Int.toNat t24) 0 > List.getD t7 (Int.toNat (if IntKind.wrap IntKind.i64 (t24 - 1) > 0 then IntKind.wrap IntKind.i64 (t24 - 1) else 0)) 0) then
                                      Option.bind (F46 (t17, t24, ())) fun (y : Bool × Unit) => bif Prod.fst y then some (false, ()) else G 1 K9_1 (((t7, (), t14, t15, t17, t18, t21, IntKind.wrap IntKind.i64 (t24 + 1), ()), ()), h0, ())
                                    else G 1 K9_1 (((t7, (), t14, t15, t17, t18, t21, IntKind.wrap IntKind.i64 (t24 + 1), ()), ()), h0, ())
                              else
                                bif !decide (List.getD t7 (Int.toNat t24) 0 > List.getD t7 (Int.toNat (if IntKind.wrap IntKind.i64 (t24 - 1) > 0 then IntKind.wrap IntKind.i64 (t24 - 1) else 0)) 0) then Option.bind (F46 (t17, t24, ())) fun (y : Bool × Unit) => bif Prod.fst y then some (false, ()) else G 1 K9_1 (((t7, (), t14, t15, t17, t18, t21, IntKind.wrap IntKind.i64 (t24 + 1), ()), ()), h0, ())
                                else G 1 K9_1 (((t7, (), t14, t15, t17, t18, t21, IntKind.wrap IntKind.i64 (t24 + 1), ()), ()), h0, ())
                            else none
                          else none
                        else Option.bind (F46 (t17, t24, ())) fun (y : Bool × Unit) => bif Prod.fst y then some (false, ()) else G 1 K9_1 (((t7, (), t14, t15, t17, t18, t21, IntKind.wrap IntKind.i64 (t24 + 1), ()), ()), h0, ())
                    else none
              else
                bif decide (0 ≤ t24) && decide (t24 < (↑(List.length t7) : Int)) then
                  bif decide (List.getD t7 (Int.toNat t24) 0 < t21) then
                    Option.bind (F46 (t14, t24, ())) fun (y : Bool × Unit) =>
                      bif Prod.fst y then some (false, ())
                      else
                        bif decide (t24 > 0) then
                          bif decide (0 ≤ t24) && decide (t24 < (↑(List.length t7) : Int)) then
                            bif decide (0 ≤ if IntKind.wrap IntKind.i64 (t24 - 1) > 0 then IntKind.wrap IntKind.i64 (t24 - 1) else 0) && decide ((if IntKind.wrap IntKind.i64 (t24 - 1) > 0 then IntKind.wrap IntKind.i64 (t24 - 1) else 0) < (↑(List.length t7) : Int)) then
                              bif decide (List.getD t7 (Int.toNat t24) 0 > List.getD t7 (Int.toNat (if IntKind.wrap IntKind.i64 (t24 - 1) > 0 then IntKind.wrap IntKind.i64 (t24 - 1) else 0)) 0) then
                                Option.bind (F46 (t18, t24, ())) fun (y : Bool × Unit) =>
                                  bif !Prod.fst y then some (false, ())
                                  else
                                    bif !decide (List.getD t7 (Int.toNat t24) 0 > List.getD t7 (Int.toNat (if IntKind.wrap IntKind.i64 (t24 - 1) > 0 then IntKind.wrap IntKind.i64 (t24 - 1) else 0)) 0) then
                                      Option.bind (F46 (t17, t24, ())) fun (y : Bool × Unit) => bif Prod.fst y then some (false, ()) else G 1 K9_1 (((t7, (), t14, t15, t17, t18, t21, IntKind.wrap IntKind.i64 (t24 + 1), ()), ()), h0, ())
                                    else G 1 K9_1 (((t7, (), t14, t15, t17, t18, t21, IntKind.wrap IntKind.i64 (t24 + 1), ()), ()), h0, ())
                              else
                                bif !decide (List.getD t7 (Int.toNat t24) 0 > List.getD t7 (Int.toNat (if IntKind.wrap IntKind.i64 (t24 - 1) > 0 then IntKind.wrap IntKind.i64 (t24 - 1) else 0)) 0) then Option.bind (F46 (t17, t24, ())) fun (y : Bool × Unit) => bif Prod.fst y then some (false, ()) else G 1 K9_1 (((t7, (), t14, t15, t17, t18, t21, IntKind.wrap IntKind.i64 (t24 + 1), ()), ()), h0, ())
                                else G 1 K9_1 (((t7, (), t14, t15, t17, t18, t21, IntKind.wrap IntKind.i64 (t24 + 1), ()), ()), h0, ())
                            else none
                          else none
                        else Option.bind (F46 (t17, t24, ())) fun (y : Bool × Unit) => bif Prod.fst y then some (false, ()) else G 1 K9_1 (((t7, (), t14, t15, t17, t18, t21, IntKind.wrap IntKind.i64 (t24 + 1), ()), ()), h0, ())
                  else
                    bif decide (t24 > 0) then
                      bif decide (0 ≤ t24) && decide (t24 < (↑(List.length t7) : Int)) then
                        bif decide (0 ≤ if IntKind.wrap IntKind.i64 (t24 - 1) > 0 then IntKind.wrap IntKind.i64 (t24 - 1) else 0) && decide ((if IntKind.wrap IntKind.i64 (t24 - 1) > 0 then IntKind.wrap IntKind.i64 (t24 - 1) else 0) < (↑(List.length t7) : Int)) then
                          bif decide (List.getD t7 (Int.toNat t24) 0 > List.getD t7 (Int.toNat (if IntKind.wrap IntKind.i64 (t24 - 1) > 0 then IntKind.wrap IntKind.i64 (t24 - 1) else 0)) 0) then
                            Option.bind (F46 (t18, t24, ())) fun (y : Bool × Unit) =>
                              bif !Prod.fst y then some (false, ())
                              else
                                bif !decide (List.getD t7 (Int.toNat t24) 0 > List.getD t7 (Int.toNat (if IntKind.wrap IntKind.i64 (t24 - 1) > 0 then IntKind.wrap IntKind.i64 (t24 - 1) else 0)) 0) then Option.bind (F46 (t17, t24, ())) fun (y : Bool × Unit) => bif Prod.fst y then some (false, ()) else G 1 K9_1 (((t7, (), t14, t15, t17, t18, t21, IntKind.wrap IntKind.i64 (t24 + 1), ()), ()), h0, ())
                                else G 1 K9_1 (((t7, (), t14, t15, t17, t18, t21, IntKind.wrap IntKind.i64 (t24 + 1), ()), ()), h0, ())
                          else
                            bif !decide (List.getD t7 (Int.toNat t24) 0 > List.getD t7 (Int.toNat (if IntKind.wrap IntKind.i64 (t24 - 1) > 0 then IntKind.wrap IntKind.i64 (t24 - 1) else 0)) 0) then Option.bind (F46 (t17, t24, ())) fun (y : Bool × Unit) => bif Prod.fst y then some (false, ()) else G 1 K9_1 (((t7, (), t14, t15, t17, t18, t21, IntKind.wrap IntKind.i64 (t24 + 1), ()), ()), h0, ())
                            else G 1 K9_1 (((t7, (), t14, t15, t17, t18, t21, IntKind.wrap IntKind.i64 (t24 + 1), ()), ()), h0, ())
                        else none
                      else none
                    else Option.bind (F46 (t17, t24, ())) fun (y : Bool × Unit) => bif Prod.fst y then some (false, ()) else G 1 K9_1 (((t7, (), t14, t15, t17, t18, t21, IntKind.wrap IntKind.i64 (t24 + 1), ()), ()), h0, ())
                else none
            else none
      else none
  else Option.bind (F22 ()) fun (y : Bool × Unit) => some (Prod.fst y, ()) := by kernel_rfl
noncomputable def F9 : denL [(.struct [(.int .i64), (.slice (.struct [(.int .i64), (.int .i64)]))]), (.slice (.int .u8))] → Option (denL [.bool]) := ghost cx49 S9 6000 9 [(.struct [(.int .i64), (.slice (.struct [(.int .i64), (.int .i64)]))]), (.slice (.int .u8))] [.bool]
noncomputable def C9 : Con := ⟨[(.struct [(.int .i64), (.slice (.struct [(.int .i64), (.int .i64)]))]), (.slice (.int .u8))], [.bool], F9⟩
noncomputable def cx9 : Ctx := cx49.add 9 C9
def S10 : List Gh.Spec := [{ key := (0, 10, 7, 1), frs := [{ fn := 10, n := 119, regs := [(1, (.ptr 100001 [])), (3, (.ptr 100003 [])), (4, (.ptr 100004 [])), (5, (.dat (.int .i64))), (6, .nilsl), (7, .nilsl), (8, (.dat (.int .i64))), (9, (.dat (.int .i64))), (10, (.dat (.int .i64)))], round := none, defers := [] }], heap := [(100001, .box (.dat (.struct [(.int .i64), (.slice (.struct [(.int .i64), (.int .i64)]))])) false), (100003, .box (.dat (.struct [(.int .i64), (.int .i64)])) false), (100004, .box (.dat (.struct [(.int .i64), (.int .i64)])) false)] }]
noncomputable def K10_0 : Kept := { todos := [[.inLoop (cAt Tryd.f10 [1, 1, 1, 1, 1, 0, 1, 0, 0]), .inBlock 0, .code (cAt Tryd.f10 [1, 1, 1, 1, 1, 1])]], cs := [noCodes, noCodes, noCodes] }
theorem E10 (G : (n : Nat) → Kept → denK (specAt S10 n) → Option (denL [.bool])) (t0 : (Int × (List (Int × Int × Unit)) × Unit)) : enter cx9 S10 [.bool] 6000 some G 10 [(.struct [(.int .i64), (.slice (.struct [(.int .i64), (.int .i64)]))])] (t0, ()) =
    Option.bind (F23 (t0, ())) fun (y : (Int × Int × Unit) × (Int × Int × Unit) × Int × Unit) =>
  Option.bind (F47 (t0, ())) fun (y_1 : Bool × Unit) =>
    bif !Prod.fst y_1 then bif Prod.fst (Prod.snd (Prod.snd y)) != 0 then bif eqD (Ty.struct [Ty.int IntKind.i64, Ty.int IntKind.i64]) (Prod.fst y) (0, 0, ()) then bif eqD (Ty.struct [Ty.int IntKind.i64, Ty.int IntKind.i64]) (Prod.fst (Prod.snd y)) (0, 0, ()) then Option.bind (F22 ()) fun (y : Bool × Unit) => some (Prod.fst y, ()) else some (false, ()) else some (false, ()) else some (false, ())
    else G 0 K10_0 ((((), (), (), Prod.fst (Prod.snd (Prod.snd y)), (), (), 0, 0, 0, ()), ()), t0, Prod.fst y, Prod.fst (Prod.snd y), ()) := by kernel_rfl
theorem Q10_0 (G : (n : Nat) → Kept → denK (specAt S10 n) → Option (denL [.bool])) (t5 : Int) (t8 : Int) (t9 : Int) (t10 : Int) (h0 : (Int × (List (Int × Int × Unit)) × Unit)) (h1 : (Int × Int × Unit)) (h2 : (Int × Int × Unit)) : seg cx9 S10 [.bool] 6000 some G 0 K10_0 ((((), ((), ((), (t5, ((), ((), (t8, (t9, (t10, ()))))))))), ()), (h0, (h1, (h2, ())))) =
    bif decide (t10 < (↑(List.length (Prod.fst (Prod.snd h0))) : Int)) then
  Option.bind (F20 (h0, t10, ())) fun (y : (Int × Int × Unit) × Int × Unit) =>
    bif Prod.fst (Prod.snd y) != 0 then some (false, ()) else Option.bind (F48 (Prod.fst (Prod.fst y), 0, 100, ())) fun (y_1 : Bool × Unit) => bif !Prod.fst y_1 then some (false, ()) else Option.bind (F48 (Prod.fst (Prod.snd (Prod.fst y)), Prod.fst (Prod.fst y), 100, ())) fun (y : Bool × Unit) => bif !Prod.fst y then some (false, ()) else none
  else
  bif t5 == 0 then
    Option.bind (F49 (h0, [], ())) fun (y : Bool × Unit) =>
      bif Prod.fst y then
        Option.bind (F49 (h0, [], ())) fun (y : Bool × Unit) =>
          bif Prod.fst y then
            Option.bind (F43 (t8, 0, ())) fun (y : (Int × Int × Unit) × Unit) =>
              bif eqD (Ty.struct [Ty.int IntKind.i64, Ty.int IntKind.i64]) h1 (Prod.fst y) then Option.bind (F43 (t9, 0, ())) fun (y : (Int × Int × Unit) × Unit) => bif eqD (Ty.struct [Ty.int IntKind.i64, Ty.int IntKind.i64]) h2 (Prod.fst y) then Option.bind (F22 ()) fun (y : Bool × Unit) => some (Prod.fst y, ()) else some (false, ()) else some (false, ())
          else some (false, ())
      else some (false, ())
  else some (false, ()) := by kernel_rfl
noncomputable def F10 : denL [(.struct [(.int .i64), (.slice (.struct [(.int .i64), (.int .i64)]))])] → Option (denL [.bool]) := ghost cx9 S10 6000 10 [(.struct [(.int .i64), (.slice (.struct [(.int .i64), (.int .i64)]))])] [.bool]
noncomputable def C10 : Con := ⟨[(.struct [(.int .i64), (.slice (.struct [(.int .i64), (.int .i64)]))])], [.bool], F10⟩
noncomputable def cx10 : Ctx := cx9.add 10 C10
def S11 : List Gh.Spec := [{ key := (0, 11, 7, 1), frs := [{ fn := 11, n := 108, regs := [(1, (.dat (.int .u8))), (2, (.ptr 110002 [])), (5, (.dat (.slice (.int .i64)))), (6, (.dat (.int .i64))), (7, (.dat (.slice (.int .i64)))), (8, (.row 110048)), (9, (.dat (.int .i64)))], round := none, defers := [] }], heap := [(110002, .box (.dat (.struct [(.int .i64), (.slice (.struct [(.int .i64), (.int .i64)]))])) false), (110048, .row (.int .i64) false)] }, { key := (0, 11, 17, 1), frs := [{ fn := 11, n := 108, regs := [(2, (.ptr 110002 [])), (5, (.dat (.slice (.int .i64)))), (8, (.row 110048)), (10, (.dat .bool)), (11, (.dat (.int .i64)))], round := none, defers := [] }], heap := [(110002, .box (.dat (.struct [(.int .i64), (.slice (.struct [(.int .i64), (.int .i64)]))])) false), (110048, .row (.int .i64) true)] }]
noncomputable def K11_0 : Kept := { todos := [[.inLoop (cAt Tryd.f11 [1, 1, 1, 1, 1, 0, 1, 0, 0]), .inBlock 0, .code (cAt Tryd.f11 [1, 1, 1, 1, 1, 1])]], cs := [noCodes, noCodes] }
noncomputable def K11_1 : Kept := { todos := [[.inLoop (cAt Tryd.f11 [1, 1, 1, 1, 1, 1, 1, 1, 1, 0, 1, 0, 0]), .inBlock 2, .code (cAt Tryd.f11 [1, 1, 1, 1, 1, 1, 1, 1, 1, 1])]], cs := [noCodes, noCodes] }
theorem E11 (G : (n : Nat) → Kept → denK (specAt S11 n) → Option (denL [.bool])) (t0 : (Int × (List (Int × Int × Unit)) × Unit)) (t1 : Int) : enter cx10 S11 [.bool] 6000 some G 11 [(.struct [(.int .i64), (.slice (.struct [(.int .i64), (.int .i64)]))]), (.int .u8)] (t0, (t1, ())) =
    Option.bind (F35 (t0, ())) fun (y : List Int × Int × Unit) =>
  Option.bind (F39 (t0, ())) fun (y_1 : Bool × Unit) =>
    bif !Prod.fst y_1 then bif Prod.fst (Prod.snd y) != 0 then bif (↑(List.length (Prod.fst y)) : Int) == 0 then Option.bind (F22 ()) fun (y : Bool × Unit) => some (Prod.fst y, ()) else some (false, ()) else some (false, ()) else Option.bind (F50 (t0, ())) fun (y_2 : List Int × Unit) => G 0 K11_0 (((t1, (), Prod.fst y, Prod.fst (Prod.snd y), Prod.fst y_2, (), 0, ()), ()), t0, [], ()) := by kernel_rfl
theorem Q11_0 (G : (n : Nat) → Kept → denK (specAt S11 n) → Option (denL [.bool])) (t1 : Int) (t5 : (List Int)) (t6 : Int) (t7 : (List Int)) (t9 : Int) (h0 : (Int × (List (Int × Int × Unit)) × Unit)) (h1 : (List Int)) : seg cx10 S11 [.bool] 6000 some G 0 K11_0 (((t1, ((), (t5, (t6, (t7, ((), (t9, ()))))))), ()), (h0, (h1, ()))) =
    bif decide (t9 < (↑(List.length t7) : Int)) then
  Option.bind (F51 (IntKind.wrap IntKind.i64 t1, t9, ())) fun (y : Bool × Unit) =>
    bif Prod.fst y then bif decide (0 ≤ t9) && decide (t9 < (↑(List.length t7) : Int)) then bif decide (List.length h1 + List.length (List.set (List.replicate 1 0) 0 (List.getD t7 (Int.toNat t9) 0)) ≤ 2147483648) then G 0 K11_0 (((t1, (), t5, t6, t7, (), IntKind.wrap IntKind.i64 (t9 + 1), ()), ()), h0, h1 ++ List.set (List.replicate 1 0) 0 (List.getD t7 (Int.toNat t9) 0), ()) else none else none
    else G 0 K11_0 (((t1, (), t5, t6, t7, (), IntKind.wrap IntKind.i64 (t9 + 1), ()), ()), h0, h1, ())
  else
  Option.bind (F52 (h0, h1, ())) fun (y : (Int × List (Int × Int × Unit) × Unit) × Unit) =>
    Option.bind (F47 (Prod.fst y, ())) fun (y : Bool × Unit) =>
      bif t6 != 0 then bif t6 == 9 then bif (↑(List.length t5) : Int) == 0 then bif !Prod.fst y then Option.bind (F22 ()) fun (y : Bool × Unit) => some (Prod.fst y, ()) else some (false, ()) else some (false, ()) else some (false, ())
      else Option.bind (F53 (t5, (↑(List.length (Prod.fst (Prod.snd h0))) : Int), ())) fun (y_1 : Bool × Unit) => bif !Prod.fst y_1 then some (false, ()) else G 1 K11_1 ((((), t5, (), Prod.fst y, 0, ()), ()), h0, h1, ()) := by kernel_rfl
theorem Q11_1 (G : (n : Nat) → Kept → denK (specAt S11 n) → Option (denL [.bool])) (t5 : (List Int)) (t10 : Bool) (t11 : Int) (h0 : (Int × (List (Int × Int × Unit)) × Unit)) (h1 : (List Int)) : seg cx10 S11 [.bool] 6000 some G 1 K11_1 ((((), (t5, ((), (t10, (t11, ()))))), ()), (h0, (h1, ()))) =
    bif decide (t11 < (↑(List.length t5) : Int)) then
  bif decide (0 ≤ t11) && decide (t11 < (↑(List.length t5) : Int)) then
    bif decide (0 ≤ List.getD t5 (Int.toNat t11) 0) && decide (List.getD t5 (Int.toNat t11) 0 < (↑(List.length (Prod.fst (Prod.snd h0))) : Int)) then bif Prod.fst (List.getD (Prod.fst (Prod.snd h0)) (Int.toNat (List.getD t5 (Int.toNat t11) 0)) (0, 0, ())) != 3 then some (false, ()) else G 1 K11_1 ((((), t5, (), t10, IntKind.wrap IntKind.i64 (t11 + 1), ()), ()), h0, h1, ()) else none
  else none
  else
  Option.bind (F52 (h0, t5, ())) fun (y : (Int × List (Int × Int × Unit) × Unit) × Unit) =>
    Option.bind (F47 (Prod.fst y, ())) fun (y : Bool × Unit) => bif Prod.fst y then bif !t10 then Option.bind (F22 ()) fun (y : Bool × Unit) => some (Prod.fst y, ()) else Option.bind (F54 (h1, t5, ())) fun (y : Bool × Unit) => bif !Prod.fst y then Option.bind (F22 ()) fun (y : Bool × Unit) => some (Prod.fst y, ()) else some (false, ()) else some (false, ()) := by kernel_rfl
noncomputable def F11 : denL [(.struct [(.int .i64), (.slice (.struct [(.int .i64), (.int .i64)]))]), (.int .u8)] → Option (denL [.bool]) := ghost cx10 S11 6000 11 [(.struct [(.int .i64), (.slice (.struct [(.int .i64), (.int .i64)]))]), (.int .u8)] [.bool]
noncomputable def C11 : Con := ⟨[(.struct [(.int .i64), (.slice (.struct [(.int .i64), (.int .i64)]))]), (.int .u8)], [.bool], F11⟩
noncomputable def cx11 : Ctx := cx10.add 11 C11
def S12 : List Gh.Spec := [{ key := (0, 12, 20, 1), frs := [{ fn := 12, n := 268, regs := [(2, (.ptr 120002 [])), (13, (.ptr 120013 [])), (32, (.dat (.int .i64)))], round := none, defers := [] }], heap := [(120002, .box (.dat (.struct [(.int .i64), (.slice (.struct [(.int .i64), (.int .i64)]))])) false), (120013, .box (.dat (.struct [(.int .i64), (.slice (.struct [(.int .i64), (.int .i64)]))])) false)] }]
noncomputable def K12_0 : Kept := { todos := [[.inLoop (cAt Tryd.f12 [1, 1, 1, 1, 1, 1, 1, 1, 1, 1, 1, 1, 1, 1, 0, 1, 0, 0]), .inBlock 0, .code (cAt Tryd.f12 [1, 1, 1, 1, 1, 1, 1, 1, 1, 1, 1, 1, 1, 1, 1])]], cs := [noCodes, noCodes] }
theorem E12 (G : (n : Nat) → Kept → denK (specAt S12 n) → Option (denL [.bool])) (t0 : (Int × (List (Int × Int × Unit)) × Unit)) (t1 : (List Int)) : enter cx11 S12 [.bool] 6000 some G 12 [(.struct [(.int .i64), (.slice (.struct [(.int .i64), (.int .i64)]))]), (.arr 2 (.int .u8))] (t0, (t1, ())) =
    Option.bind (F47 (t0, ())) fun (y : Bool × Unit) =>
  bif !Prod.fst y then Option.bind (F25 (t0, 0, 0, ())) fun (y : (Int × Int × Unit) × (Int × Int × Unit) × Int × Unit) => bif Prod.fst (Prod.snd (Prod.snd y)) != 0 then Option.bind (F22 ()) fun (y : Bool × Unit) => some (Prod.fst y, ()) else some (false, ())
  else
    bif decide ((↑(List.length (Prod.fst (Prod.snd t0))) : Int) = 0) then none
    else
      Option.bind (F25 (t0, Int.tmod (IntKind.wrap IntKind.i64 (List.getD t1 0 0)) (↑(List.length (Prod.fst (Prod.snd t0))) : Int), Int.tmod (IntKind.wrap IntKind.i64 (List.getD t1 1 0)) 101, ())) fun (y : (Int × Int × Unit) × (Int × Int × Unit) × Int × Unit) =>
        Option.bind (F55 (t0, Int.tmod (IntKind.wrap IntKind.i64 (List.getD t1 0 0)) (↑(List.length (Prod.fst (Prod.snd t0))) : Int), Int.tmod (IntKind.wrap IntKind.i64 (List.getD t1 1 0)) 101, ())) fun (y_1 : (Int × List (Int × Int × Unit) × Unit) × Unit) =>
          bif decide (0 ≤ Int.tmod (IntKind.wrap IntKind.i64 (List.getD t1 0 0)) (↑(List.length (Prod.fst (Prod.snd t0))) : Int)) && decide (Int.tmod (IntKind.wrap IntKind.i64 (List.getD t1 0 0)) (↑(List.length (Prod.fst (Prod.snd t0))) : Int) < (↑(List.length (Prod.fst (Prod.snd t0))) : Int)) then
            Option.bind (F56 (List.getD (Prod.fst (Prod.snd t0)) (Int.toNat (Int.tmod (IntKind.wrap IntKind.i64 (List.getD t1 0 0)) (↑(List.length (Prod.fst (Prod.snd t0))) : Int))) (0, 0, ()), Int.tmod (IntKind.wrap IntKind.i64 (List.getD t1 1 0)) 101, ())) fun (y_2 : Bool × Unit) =>
              bif !Prod.fst y_2 then
                bif Prod.fst (Prod.snd (Prod.snd y)) == 9 then bif eqD (Ty.struct [Ty.int IntKind.i64, Ty.int IntKind.i64]) (Prod.fst y) (0, 0, ()) then bif eqD (Ty.struct [Ty.int IntKind.i64, Ty.int IntKind.i64]) (Prod.fst (Prod.snd y)) (0, 0, ()) then Option.bind (F22 ()) fun (y : Bool × Unit) => some (Prod.fst y, ()) else some (false, ()) else some (false, ()) else some (false, ())
              else
                Option.bind (F47 (Prod.fst y_1, ())) fun (y_3 : Bool × Unit) =>
                  bif !Prod.fst y_3 then
                    bif Prod.fst (Prod.snd (Prod.snd y)) == 9 then bif eqD (Ty.struct [Ty.int IntKind.i64, Ty.int IntKind.i64]) (Prod.fst y) (0, 0, ()) then bif eqD (Ty.struct [Ty.int IntKind.i64, Ty.int IntKind.i64]) (Prod.fst (Prod.snd y)) (0, 0, ()) then Option.bind (F22 ()) fun (y : Bool × Unit) => some (Prod.fst y, ()) else some (false, ()) else some (false, ()) else some (false, ())
                  else
                    Option.bind (F23 (t0, ())) fun (y_4 : (Int × Int × Unit) × (Int × Int × Unit) × Int × Unit) =>
                      Option.bind (F23 (Prod.fst y_1, ())) fun (y_5 : (Int × Int × Unit) × (Int × Int × Unit) × Int × Unit) =>
                        Option.bind (F28 (t0, ())) fun (y_6 : List Int × List Int × Int × Unit) =>
                          Option.bind (F28 (Prod.fst y_1, ())) fun (y_7 : List Int × List Int × Int × Unit) =>
                            Option.bind (F31 (t0, ())) fun (y_8 : List Int × List Int × Int × Unit) =>
                              Option.bind (F31 (Prod.fst y_1, ())) fun (y_9 : List Int × List Int × Int × Unit) =>
                                bif Prod.fst (Prod.snd (Prod.snd y)) != 0 then some (false, ())
                                else
                                  bif Prod.fst (Prod.snd (Prod.snd y_4)) != 0 then some (false, ())
                                  else
                                    bif Prod.fst (Prod.snd (Prod.snd y_5)) != 0 then some (false, ())
                                    else
                                      bif Prod.fst (Prod.snd (Prod.snd y_6)) != 0 then some (false, ())
                                      else
                                        bif Prod.fst (Prod.snd (Prod.snd y_7)) != 0 then some (false, ())
                                        else
                                          bif Prod.fst (Prod.snd (Prod.snd y_8)) != 0 then some (false, ())
                                          else
                                            bif Prod.fst (Prod.snd (Prod.snd y_9)) != 0 then some (false, ())
                                            else
                                              bif !eqD (Ty.struct [Ty.int IntKind.i64, Ty.int IntKind.i64]) (Prod.fst y) (Prod.fst y_5) then some (false, ())
                                              else
                                                bif !eqD (Ty.struct [Ty.int IntKind.i64, Ty.int IntKind.i64]) (Prod.fst (Prod.snd y)) (Prod.fst (Prod.snd y_5)) then some (false, ())
                                                else
                                                  Option.bind (F42 (Prod.fst y_5, (↑(List.length (Prod.fst (Prod.snd t0))) : Int), ())) fun (y : Bool × Unit) =>
                                                    bif !Prod.fst y then some (false, ())
                                                    else
                                                      Option.bind (F42 (Prod.fst (Prod.snd y_5), (↑(List.length (Prod.fst (Prod.snd t0))) : Int), ())) fun (y : Bool × Unit) =>
                                                        bif !Prod.fst y then some (false, ())
                                                        else
                                                          Option.bind (F42 (Prod.fst y_4, (↑(List.length (Prod.fst (Prod.snd t0))) : Int), ())) fun (y : Bool × Unit) =>
                                                            bif !Prod.fst y then some (false, ())
                                                            else
                                                              Option.bind (F42 (Prod.fst (Prod.snd y_4), (↑(List.length (Prod.fst (Prod.snd t0))) : Int), ())) fun (y : Bool × Unit) =>
                                                                bif !Prod.fst y then some (false, ())
                                                                else
                                                                  Option.bind (F44 (Prod.fst y_5, Prod.fst (Prod.snd y_5), Prod.fst y_4, Prod.fst (Prod.snd y_4), ())) fun (y : Bool × Unit) =>
                                                                    bif !Prod.fst y then some (false, ())
                                                                    else
                                                                      Option.bind (F57 (Prod.fst y_6, Prod.fst y_7, ())) fun (y : Bool × Unit) =>
                                                                        bif !Prod.fst y then some (false, ())
                                                                        else
                                                                          Option.bind (F57 (Prod.fst (Prod.snd y_7), Prod.fst (Prod.snd y_6), ())) fun (y : Bool × Unit) =>
                                                                            bif !Prod.fst y then some (false, ())
                                                                            else Option.bind (F57 (Prod.fst y_8, Prod.fst y_9, ())) fun (y : Bool × Unit) => bif !Prod.fst y then some (false, ()) else Option.bind (F57 (Prod.fst (Prod.snd y_9), Prod.fst (Prod.snd y_8), ())) fun (y : Bool × Unit) => bif !Prod.fst y then some (false, ()) else G 0 K12_0 ((((), (), 0, ()), ()), t0, Prod.fst y_1, ())
          else none := by kernel_rfl
theorem Q12_0 (G : (n : Nat) → Kept → denK (specAt S12 n) → Option (denL [.bool])) (t32 : Int) (h0 : (Int × (List (Int × Int × Unit)) × Unit)) (h1 : (Int × (List (Int × Int × Unit)) × Unit)) : seg cx11 S12 [.bool] 6000 some G 0 K12_0 ((((), ((), (t32, ()))), ()), (h0, (h1, ()))) =
    bif decide (t32 < (↑(List.length (Prod.fst (Prod.snd h0))) : Int)) then
  Option.bind (F20 (h0, t32, ())) fun (y : (Int × Int × Unit) × Int × Unit) =>
    Option.bind (F20 (h1, t32, ())) fun (y_1 : (Int × Int × Unit) × Int × Unit) => bif Prod.fst (Prod.snd y) != 0 then some (false, ()) else bif Prod.fst (Prod.snd y_1) != 0 then some (false, ()) else Option.bind (F58 (Prod.fst y_1, Prod.fst y, ())) fun (y : Bool × Unit) => bif !Prod.fst y then some (false, ()) else G 0 K12_0 ((((), (), IntKind.wrap IntKind.i64 (t32 + 1), ()), ()), h0, h1, ())
  else Option.bind (F22 ()) fun (y : Bool × Unit) => some (Prod.fst y, ()) := by kernel_rfl
noncomputable def F12 : denL [(.struct [(.int .i64), (.slice (.struct [(.int .i64), (.int .i64)]))]), (.arr 2 (.int .u8))] → Option (denL [.bool]) := ghost cx11 S12 6000 12 [(.struct [(.int .i64), (.slice (.struct [(.int .i64), (.int .i64)]))]), (.arr 2 (.int .u8))] [.bool]
noncomputable def C12 : Con := ⟨[(.struct [(.int .i64), (.slice (.struct [(.int .i64), (.int .i64)]))]), (.arr 2 (.int .u8))], [.bool], F12⟩
noncomputable def cx12 : Ctx := cx11.add 12 C12
def S13 : List Gh.Spec := []
theorem E13 (G : (n : Nat) → Kept → denK (specAt S13 n) → Option (denL [.bool])) (t0 : (Int × (List (Int × Int × Unit)) × Unit)) (t1 : (List Int)) : enter cx12 S13 [.bool] 6000 some G 13 [(.struct [(.int .i64), (.slice (.struct [(.int .i64), (.int .i64)]))]), (.arr 2 (.int .u8))] (t0, (t1, ())) =
    Option.bind (F27 (t0, ())) fun (y : (Int × List (Int × Int × Unit) × Unit) × Unit) =>
  Option.bind (F33 (Prod.fst y, ())) fun (y_1 : Int × Int × Int × Unit) =>
    Option.bind (F47 (Prod.fst y, ())) fun (y_2 : Bool × Unit) =>
      bif !Prod.fst y_2 then bif Prod.fst (Prod.snd (Prod.snd y_1)) != 0 then bif Prod.fst y_1 == 0 then bif Prod.fst (Prod.snd y_1) == 0 then Option.bind (F22 ()) fun (y : Bool × Unit) => some (Prod.fst y, ()) else some (false, ()) else some (false, ()) else some (false, ())
      else
        Option.bind (F59 (Prod.fst y, ())) fun (y_3 : (Int × Int × Unit) × Bool × Unit) =>
          bif decide ((↑(List.length (Prod.fst (Prod.snd (Prod.fst y)))) : Int) = 0) then none
          else
            bif Prod.fst (Prod.snd (Prod.snd y_1)) != 0 then
              bif Prod.fst (Prod.snd (Prod.snd y_1)) == 9 then
                bif Prod.fst y_1 == 0 then
                  bif Prod.fst (Prod.snd y_1) == 0 then
                    Option.bind (F60 (Prod.fst y, Int.tmod (IntKind.wrap IntKind.i64 (List.getD t1 1 0)) (↑(List.length (Prod.fst (Prod.snd (Prod.fst y)))) : Int), ())) fun (y : Int × Unit) => bif Prod.fst y == IntKind.wrap IntKind.i64 (Prod.fst (Prod.snd (Prod.fst y_3)) - Prod.fst (Prod.fst y_3)) then Option.bind (F22 ()) fun (y : Bool × Unit) => some (Prod.fst y, ()) else some (false, ())
                  else some (false, ())
                else some (false, ())
              else some (false, ())
            else
              Option.bind (F48 (Prod.fst y_1, 0, IntKind.wrap IntKind.i64 ((↑(List.length (Prod.fst (Prod.snd (Prod.fst y)))) : Int) - 1), ())) fun (y_4 : Bool × Unit) =>
                bif !Prod.fst y_4 then some (false, ())
                else
                  bif decide (Prod.fst (Prod.snd y_1) ≥ IntKind.wrap IntKind.i64 (Prod.fst (Prod.snd (Prod.fst y_3)) - Prod.fst (Prod.fst y_3))) then some (false, ())
                  else
                    Option.bind (F61 (Prod.fst y, Prod.fst y_1, ())) fun (y_5 : List Int × Unit) =>
                      bif decide ((↑(List.length (Prod.fst y_5)) : Int) = 0) then none
                      else
                        bif decide (0 ≤ Int.tmod (IntKind.wrap IntKind.i64 (List.getD t1 0 0)) (↑(List.length (Prod.fst y_5)) : Int)) && decide (Int.tmod (IntKind.wrap IntKind.i64 (List.getD t1 0 0)) (↑(List.length (Prod.fst y_5)) : Int) < (↑(List.length (Prod.fst y_5)) : Int)) then
                          Option.bind (F55 (Prod.fst y, Prod.fst y_1, List.getD (Prod.fst y_5) (Int.toNat (Int.tmod (IntKind.wrap IntKind.i64 (List.getD t1 0 0)) (↑(List.length (Prod.fst y_5)) : Int))) 0, ())) fun (y_6 : (Int × List (Int × Int × Unit) × Unit) × Unit) =>
                            Option.bind (F59 (Prod.fst y_6, ())) fun (y_7 : (Int × Int × Unit) × Bool × Unit) =>
                              Option.bind (F60 (Prod.fst y, Int.tmod (IntKind.wrap IntKind.i64 (List.getD t1 1 0)) (↑(List.length (Prod.fst (Prod.snd (Prod.fst y)))) : Int), ())) fun (y_8 : Int × Unit) =>
                                bif decide (IntKind.wrap IntKind.i64 (Prod.fst (Prod.snd (Prod.fst y_7)) - Prod.fst (Prod.fst y_7)) ≤ Prod.fst (Prod.snd y_1)) then
                                  Option.bind (F60 (Prod.fst y, Prod.fst y_1, ())) fun (y_9 : Int × Unit) =>
                                    bif Prod.fst y_9 == Prod.fst (Prod.snd y_1) then
                                      bif decide (Prod.fst y_8 > Prod.fst (Prod.snd y_1)) then Option.bind (F22 ()) fun (y : Bool × Unit) => some (Prod.fst y, ())
                                      else bif Prod.fst y_8 == Prod.fst (Prod.snd y_1) then bif decide (Int.tmod (IntKind.wrap IntKind.i64 (List.getD t1 1 0)) (↑(List.length (Prod.fst (Prod.snd (Prod.fst y)))) : Int) ≥ Prod.fst y_1) then Option.bind (F22 ()) fun (y : Bool × Unit) => some (Prod.fst y, ()) else some (false, ()) else some (false, ())
                                    else some (false, ())
                                else some (false, ())
                        else none := by kernel_rfl
noncomputable def F13 : denL [(.struct [(.int .i64), (.slice (.struct [(.int .i64), (.int .i64)]))]), (.arr 2 (.int .u8))] → Option (denL [.bool]) := ghost cx12 S13 6000 13 [(.struct [(.int .i64), (.slice (.struct [(.int .i64), (.int .i64)]))]), (.arr 2 (.int .u8))] [.bool]
noncomputable def C13 : Con := ⟨[(.struct [(.int .i64), (.slice (.struct [(.int .i64), (.int .i64)]))]), (.arr 2 (.int .u8))], [.bool], F13⟩
noncomputable def cx13 : Ctx := cx12.add 13 C13
def S14 : List Gh.Spec := [{ key := (0, 14, 8, 1), frs := [{ fn := 14, n := 102, regs := [(2, (.ptr 140002 [])), (7, (.ptr 140007 [])), (8, (.ptr 140008 [])), (9, (.dat (.int .i64)))], round := none, defers := [] }], heap := [(140002, .box (.dat (.struct [(.int .i64), (.slice (.struct [(.int .i64), (.int .i64)]))])) false), (140007, .box (.dat (.struct [(.int .i64), (.slice (.struct [(.int .i64), (.int .i64)]))])) false), (140008, .box (.dat (.struct [(.int .i64), (.int .i64)])) false)] }]
noncomputable def K14_0 : Kept := { todos := [[.inLoop (cAt Tryd.f14 [1, 1, 1, 1, 1, 0, 1, 0, 0]), .inBlock 0, .code (cAt Tryd.f14 [1, 1, 1, 1, 1, 1])]], cs := [noCodes, noCodes, noCodes] }
theorem E14 (G : (n : Nat) → Kept → denK (specAt S14 n) → Option (denL [.bool])) (t0 : (Int × (List (Int × Int × Unit)) × Unit)) (t1 : Int) : enter cx13 S14 [.bool] 6000 some G 14 [(.struct [(.int .i64), (.slice (.struct [(.int .i64), (.int .i64)]))]), (.int .u8)] (t0, (t1, ())) =
    Option.bind (F47 (t0, ())) fun (y : Bool × Unit) =>
  bif !Prod.fst y then Option.bind (F20 (t0, 0, ())) fun (y : (Int × Int × Unit) × Int × Unit) => bif Prod.fst (Prod.snd y) != 0 then Option.bind (F22 ()) fun (y : Bool × Unit) => some (Prod.fst y, ()) else some (false, ())
  else Option.bind (F38 (0, 0, ())) fun (y : (Int × Int × Unit) × Unit) => G 0 K14_0 ((((), (), (), 0, ()), ()), t0, (if IntKind.wrap IntKind.i64 (Prod.fst t0 + Int.tmod (IntKind.wrap IntKind.i64 t1) 8) < 20 then IntKind.wrap IntKind.i64 (Prod.fst t0 + Int.tmod (IntKind.wrap IntKind.i64 t1) 8) else 20, Prod.snd t0), Prod.fst y, ()) := by kernel_rfl
theorem Q14_0 (G : (n : Nat) → Kept → denK (specAt S14 n) → Option (denL [.bool])) (t9 : Int) (h0 : (Int × (List (Int × Int × Unit)) × Unit)) (h1 : (Int × (List (Int × Int × Unit)) × Unit)) (h2 : (Int × Int × Unit)) : seg cx13 S14 [.bool] 6000 some G 0 K14_0 ((((), ((), ((), (t9, ())))), ()), (h0, (h1, (h2, ())))) =
    bif decide (t9 < (↑(List.length (Prod.fst (Prod.snd h0))) : Int)) then
  Option.bind (F20 (h0, t9, ())) fun (y : (Int × Int × Unit) × Int × Unit) =>
    Option.bind (F20 (h1, t9, ())) fun (y_1 : (Int × Int × Unit) × Int × Unit) =>
      bif Prod.fst (Prod.snd y) != 0 then some (false, ())
      else
        bif Prod.fst (Prod.snd y_1) != 0 then some (false, ())
        else
          Option.bind (F58 (Prod.fst y, Prod.fst y_1, ())) fun (y_2 : Bool × Unit) =>
            bif !Prod.fst y_2 then some (false, ())
            else
              bif decide (t9 > 0) then
                Option.bind (F48 (IntKind.wrap IntKind.i64 (Prod.fst (Prod.fst y) - Prod.fst h2), IntKind.wrap IntKind.i64 (0 - Prod.fst h0), Prod.fst h0, ())) fun (y_3 : Bool × Unit) =>
                  bif !Prod.fst y_3 then some (false, ()) else Option.bind (F48 (IntKind.wrap IntKind.i64 (Prod.fst (Prod.snd (Prod.fst y)) - Prod.fst (Prod.snd h2)), IntKind.wrap IntKind.i64 (0 - Prod.fst h0), Prod.fst h0, ())) fun (y_4 : Bool × Unit) => bif !Prod.fst y_4 then some (false, ()) else G 0 K14_0 ((((), (), (), IntKind.wrap IntKind.i64 (t9 + 1), ()), ()), h0, h1, Prod.fst y, ())
              else G 0 K14_0 ((((), (), (), IntKind.wrap IntKind.i64 (t9 + 1), ()), ()), h0, h1, Prod.fst y, ())
  else Option.bind (F22 ()) fun (y : Bool × Unit) => some (Prod.fst y, ()) := by kernel_rfl
noncomputable def F14 : denL [(.struct [(.int .i64), (.slice (.struct [(.int .i64), (.int .i64)]))]), (.int .u8)] → Option (denL [.bool]) := ghost cx13 S14 6000 14 [(.struct [(.int .i64), (.slice (.struct [(.int .i64), (.int .i64)]))]), (.int .u8)] [.bool]
noncomputable def C14 : Con := ⟨[(.struct [(.int .i64), (.slice (.struct [(.int .i64), (.int .i64)]))]), (.int .u8)], [.bool], F14⟩
noncomputable def cx14 : Ctx := cx13.add 14 C14
def S15 : List Gh.Spec := [{ key := (0, 15, 12, 1), frs := [{ fn := 15, n := 138, regs := [(1, (.ptr 150001 [])), (3, (.ptr 150003 [])), (4, (.dat (.int .i64))), (11, (.dat (.slice (.int .i64)))), (12, (.dat (.slice (.int .i64)))), (14, (.dat (.slice (.int .i64)))), (15, (.dat (.slice (.int .i64)))), (17, (.dat (.int .i64)))], round := none, defers := [] }], heap := [(150001, .box (.dat (.struct [(.int .i64), (.slice (.struct [(.int .i64), (.int .i64)]))])) false), (150003, .box (.dat (.struct [(.int .i64), (.slice (.struct [(.int .i64), (.int .i64)]))])) false)] }]
noncomputable def K15_0 : Kept := { todos := [[.inLoop (cAt Tryd.f15 [1, 1, 1, 1, 1, 1, 1, 1, 1, 0, 1, 0, 0]), .inBlock 0, .code (cAt Tryd.f15 [1, 1, 1, 1, 1, 1, 1, 1, 1, 1])]], cs := [noCodes, noCodes] }
theorem E15 (G : (n : Nat) → Kept → denK (specAt S15 n) → Option (denL [.bool])) (t0 : (Int × (List (Int × Int × Unit)) × Unit)) : enter cx14 S15 [.bool] 6000 some G 15 [(.struct [(.int .i64), (.slice (.struct [(.int .i64), (.int .i64)]))])] (t0, ()) =
    Option.bind (F39 (t0, ())) fun (y : Bool × Unit) =>
  bif !Prod.fst y then Option.bind (F22 ()) fun (y : Bool × Unit) => some (Prod.fst y, ())
  else
    Option.bind (F62 (t0, ())) fun (y : (Int × List (Int × Int × Unit) × Unit) × Unit) =>
      Option.bind (F23 (t0, ())) fun (y_1 : (Int × Int × Unit) × (Int × Int × Unit) × Int × Unit) =>
        Option.bind (F23 (Prod.fst y, ())) fun (y_2 : (Int × Int × Unit) × (Int × Int × Unit) × Int × Unit) =>
          Option.bind (F28 (t0, ())) fun (y_3 : List Int × List Int × Int × Unit) =>
            Option.bind (F28 (Prod.fst y, ())) fun (y_4 : List Int × List Int × Int × Unit) =>
              bif !eqD (Ty.struct [Ty.int IntKind.i64, Ty.int IntKind.i64]) (Prod.fst y_1) (Prod.fst y_2) then some (false, ())
              else
                bif !eqD (Ty.struct [Ty.int IntKind.i64, Ty.int IntKind.i64]) (Prod.fst (Prod.snd y_1)) (Prod.fst (Prod.snd y_2)) then some (false, ())
                else
                  bif Prod.fst (Prod.snd (Prod.snd y_1)) != Prod.fst (Prod.snd (Prod.snd y_2)) then some (false, ())
                  else
                    bif Prod.fst (Prod.snd (Prod.snd y_3)) != Prod.fst (Prod.snd (Prod.snd y_4)) then some (false, ())
                    else
                      bif (↑(List.length (Prod.fst y_3)) : Int) != (↑(List.length (Prod.fst y_4)) : Int) then some (false, ())
                      else bif (↑(List.length (Prod.fst (Prod.snd y_3))) : Int) != (↑(List.length (Prod.fst (Prod.snd y_4))) : Int) then some (false, ()) else G 0 K15_0 ((((), (), IntKind.wrap IntKind.i64 ((↑(List.length (Prod.fst (Prod.snd t0))) : Int) - 1), Prod.fst y_3, Prod.fst (Prod.snd y_3), Prod.fst y_4, Prod.fst (Prod.snd y_4), 0, ()), ()), t0, Prod.fst y, ()) := by kernel_rfl
theorem Q15_0 (G : (n : Nat) → Kept → denK (specAt S15 n) → Option (denL [.bool])) (t4 : Int) (t11 : (List Int)) (t12 : (List Int)) (t14 : (List Int)) (t15 : (List Int)) (t17 : Int) (h0 : (Int × (List (Int × Int × Unit)) × Unit)) (h1 : (Int × (List (Int × Int × Unit)) × Unit)) : seg cx14 S15 [.bool] 6000 some G 0 K15_0 ((((), ((), (t4, (t11, (t12, (t14, (t15, (t17, ())))))))), ()), (h0, (h1, ()))) =
    bif decide (t17 ≤ t4) then
  Option.bind (F20 (h0, t17, ())) fun (y : (Int × Int × Unit) × Int × Unit) =>
    Option.bind (F20 (h1, IntKind.wrap IntKind.i64 (t4 - t17), ())) fun (y_1 : (Int × Int × Unit) × Int × Unit) =>
      bif !eqD (Ty.struct [Ty.int IntKind.i64, Ty.int IntKind.i64]) (Prod.fst y) (Prod.fst y_1) then some (false, ())
      else
        bif Prod.fst (Prod.snd y) != Prod.fst (Prod.snd y_1) then some (false, ())
        else
          Option.bind (F46 (t11, t17, ())) fun (y : Bool × Unit) =>
            Option.bind (F46 (t14, IntKind.wrap IntKind.i64 (t4 - t17), ())) fun (y_2 : Bool × Unit) =>
              bif !eqD Ty.bool (Prod.fst y) (Prod.fst y_2) then some (false, ())
              else Option.bind (F46 (t12, t17, ())) fun (y : Bool × Unit) => Option.bind (F46 (t15, IntKind.wrap IntKind.i64 (t4 - t17), ())) fun (y_3 : Bool × Unit) => bif !eqD Ty.bool (Prod.fst y) (Prod.fst y_3) then some (false, ()) else G 0 K15_0 ((((), (), t4, t11, t12, t14, t15, IntKind.wrap IntKind.i64 (t17 + 1), ()), ()), h0, h1, ())
  else Option.bind (F22 ()) fun (y : Bool × Unit) => some (Prod.fst y, ()) := by kernel_rfl
noncomputable def F15 : denL [(.struct [(.int .i64), (.slice (.struct [(.int .i64), (.int .i64)]))])] → Option (denL [.bool]) := ghost cx14 S15 6000 15 [(.struct [(.int .i64), (.slice (.struct [(.int .i64), (.int .i64)]))])] [.bool]
noncomputable def C15 : Con := ⟨[(.struct [(.int .i64), (.slice (.struct [(.int .i64), (.int .i64)]))])], [.bool], F15⟩
noncomputable def cx15 : Ctx := cx14.add 15 C15
def S16 : List Gh.Spec := [{ key := (0, 16, 9, 1), frs := [{ fn := 16, n := 157, regs := [(1, (.ptr 160001 [])), (3, (.dat (.slice (.int .i64)))), (4, (.dat (.slice (.int .i64)))), (9, (.dat (.int .i64))), (10, (.dat (.int .i64)))], round := none, defers := [] }], heap := [(160001, .box (.dat (.struct [(.int .i64), (.slice (.struct [(.int .i64), (.int .i64)]))])) false)] }]
noncomputable def K16_0 : Kept := { todos := [[.inLoop (cAt Tryd.f16 [1, 1, 1, 1, 1, 1, 0, 1, 0, 0]), .inBlock 0, .code (cAt Tryd.f16 [1, 1, 1, 1, 1, 1, 1])]], cs := [noCodes] }
theorem E16 (G : (n : Nat) → Kept → denK (specAt S16 n) → Option (denL [.bool])) (t0 : (Int × (List (Int × Int × Unit)) × Unit)) : enter cx15 S16 [.bool] 6000 some G 16 [(.struct [(.int .i64), (.slice (.struct [(.int .i64), (.int .i64)]))])] (t0, ()) =
    Option.bind (F31 (t0, ())) fun (y : List Int × List Int × Int × Unit) =>
  Option.bind (F28 (t0, ())) fun (y_1 : List Int × List Int × Int × Unit) =>
    Option.bind (F47 (t0, ())) fun (y_2 : Bool × Unit) =>
      bif !Prod.fst y_2 then
        bif Prod.fst (Prod.snd (Prod.snd y)) != 0 then
          bif Prod.fst (Prod.snd (Prod.snd y_1)) == Prod.fst (Prod.snd (Prod.snd y)) then
            bif IntKind.wrap IntKind.i64 (IntKind.wrap IntKind.i64 (IntKind.wrap IntKind.i64 ((↑(List.length (Prod.fst y)) : Int) + (↑(List.length (Prod.fst (Prod.snd y))) : Int)) + (↑(List.length (Prod.fst y_1)) : Int)) + (↑(List.length (Prod.fst (Prod.snd y_1))) : Int)) == 0 then Option.bind (F22 ()) fun (y : Bool × Unit) => some (Prod.fst y, ()) else some (false, ())
          else some (false, ())
        else some (false, ())
      else
        bif Prod.fst (Prod.snd (Prod.snd y)) != 0 then some (false, ())
        else
          bif Prod.fst (Prod.snd (Prod.snd y_1)) != 0 then some (false, ())
          else
            Option.bind (F53 (Prod.fst y, (↑(List.length (Prod.fst (Prod.snd t0))) : Int), ())) fun (y_3 : Bool × Unit) =>
              bif !Prod.fst y_3 then some (false, ())
              else
                Option.bind (F53 (Prod.fst (Prod.snd y), (↑(List.length (Prod.fst (Prod.snd t0))) : Int), ())) fun (y_4 : Bool × Unit) =>
                  bif !Prod.fst y_4 then some (false, ())
                  else
                    Option.bind (F53 (Prod.fst y_1, (↑(List.length (Prod.fst (Prod.snd t0))) : Int), ())) fun (y_5 : Bool × Unit) =>
                      bif !Prod.fst y_5 then some (false, ())
                      else
                        Option.bind (F53 (Prod.fst (Prod.snd y_1), (↑(List.length (Prod.fst (Prod.snd t0))) : Int), ())) fun (y_6 : Bool × Unit) =>
                          bif !Prod.fst y_6 then some (false, ())
                          else
                            Option.bind (F57 (Prod.fst y, Prod.fst (Prod.snd y), ())) fun (y_7 : Bool × Unit) =>
                              bif !Prod.fst y_7 then some (false, ())
                              else
                                Option.bind (F57 (Prod.fst y_1, Prod.fst (Prod.snd y_1), ())) fun (y_8 : Bool × Unit) =>
                                  bif !Prod.fst y_8 then some (false, ())
                                  else bif (↑(List.length (Prod.fst (Prod.snd y_1))) : Int) == 0 then some (false, ()) else Option.bind (F46 (Prod.fst (Prod.snd y), 0, ())) fun (y_9 : Bool × Unit) => bif Prod.fst y_9 then some (false, ()) else G 0 K16_0 ((((), Prod.fst y, Prod.fst (Prod.snd y), (↑(List.length (Prod.fst (Prod.snd t0))) : Int), 1, ()), ()), t0, ()) := by kernel_rfl
theorem Q16_0 (G : (n : Nat) → Kept → denK (specAt S16 n) → Option (denL [.bool])) (t3 : (List Int)) (t4 : (List Int)) (t9 : Int) (t10 : Int) (h0 : (Int × (List (Int × Int × Unit)) × Unit)) : seg cx15 S16 [.bool] 6000 some G 0 K16_0 ((((), (t3, (t4, (t9, (t10, ()))))), ()), (h0, ())) =
    bif decide (t10 < t9) then
  Option.bind (F20 (h0, t10, ())) fun (y : (Int × Int × Unit) × Int × Unit) =>
    Option.bind (F20 (h0, IntKind.wrap IntKind.i64 (t10 - 1), ())) fun (y_1 : (Int × Int × Unit) × Int × Unit) =>
      bif Prod.fst (Prod.snd y) != 0 then some (false, ())
      else
        bif Prod.fst (Prod.snd y_1) != 0 then some (false, ())
        else
          Option.bind (F46 (t3, t10, ())) fun (y_2 : Bool × Unit) =>
            bif Prod.fst y_2 then
              bif decide (Prod.fst (Prod.fst y) ≤ Prod.fst (Prod.fst y_1)) then some (false, ())
              else Option.bind (F46 (t4, t10, ())) fun (y_3 : Bool × Unit) => bif Prod.fst y_3 then bif decide (Prod.fst (Prod.snd (Prod.fst y)) ≤ Prod.fst (Prod.fst y_1)) then some (false, ()) else G 0 K16_0 ((((), t3, t4, t9, IntKind.wrap IntKind.i64 (t10 + 1), ()), ()), h0, ()) else G 0 K16_0 ((((), t3, t4, t9, IntKind.wrap IntKind.i64 (t10 + 1), ()), ()), h0, ())
            else Option.bind (F46 (t4, t10, ())) fun (y_3 : Bool × Unit) => bif Prod.fst y_3 then bif decide (Prod.fst (Prod.snd (Prod.fst y)) ≤ Prod.fst (Prod.fst y_1)) then some (false, ()) else G 0 K16_0 ((((), t3, t4, t9, IntKind.wrap IntKind.i64 (t10 + 1), ()), ()), h0, ()) else G 0 K16_0 ((((), t3, t4, t9, IntKind.wrap IntKind.i64 (t10 + 1), ()), ()), h0, ())
  else Option.bind (F22 ()) fun (y : Bool × Unit) => some (Prod.fst y, ()) := by kernel_rfl
noncomputable def F16 : denL [(.struct [(.int .i64), (.slice (.struct [(.int .i64), (.int .i64)]))])] → Option (denL [.bool]) := ghost cx15 S16 6000 16 [(.struct [(.int .i64), (.slice (.struct [(.int .i64), (.int .i64)]))])] [.bool]
noncomputable def C16 : Con := ⟨[(.struct [(.int .i64), (.slice (.struct [(.int .i64), (.int .i64)]))])], [.bool], F16⟩
noncomputable def cx16 : Ctx := cx15.add 16 C16
end Go.Proofs.YtjigflnjgmgmnaaDoor
