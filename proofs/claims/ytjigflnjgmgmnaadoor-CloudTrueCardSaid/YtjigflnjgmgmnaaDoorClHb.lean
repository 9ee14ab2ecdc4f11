/- What the ghost comes to: the outright statements. Conditions: none (equations, each by computation). -/
import Derived.Test.YtjigflnjgmgmnaaDoorClHa
namespace Go.Proofs.YtjigflnjgmgmnaaDoor
open Go Go.Gh Go.Proofs
def S9 : List Gh.Spec := [{ key := (0, 9, 14, 1), frs := [{ fn := 9, n := 214, regs := [(7, (.dat (.slice (.int .i64)))), (8, (.ptr 90008 [])), (11, (.ptr 90011 [])), (12, (.ptr 90012 [])), (14, (.dat (.slice (.int .i64)))), (15, (.dat (.slice (.int .i64)))), (17, (.dat (.slice (.int .i64)))), (18, (.dat (.slice (.int .i64)))), (20, (.dat (.int .i64))), (21, (.dat (.int .i64))), (22, (.dat (.int .i64)))], round := none, defers := [] }], heap := [(90008, .box (.dat (.struct [(.int .i64), (.slice (.struct [(.int .i64), (.int .i64)]))])) false), (90011, .box (.dat (.struct [(.int .i64), (.int .i64)])) false), (90012, .box (.dat (.struct [(.int .i64), (.int .i64)])) false)] }, { key := (0, 9, 21, 1), frs := [{ fn := 9, n := 214, regs := [(7, (.dat (.slice (.int .i64)))), (8, (.ptr 90008 [])), (14, (.dat (.slice (.int .i64)))), (15, (.dat (.slice (.int .i64)))), (17, (.dat (.slice (.int .i64)))), (18, (.dat (.slice (.int .i64)))), (21, (.dat (.int .i64))), (24, (.dat (.int .i64)))], round := none, defers := [] }], heap := [(90008, .box (.dat (.struct [(.int .i64), (.slice (.struct [(.int .i64), (.int .i64)]))])) false)] }]
noncomputable def K9_0 : Kept := { todos := [[.inLoop (cAt Tryd.f9 [1, 1, 1, 1, 1, 1, 1, 1, 1, 1, 0, 1, 0, 0]), .inBlock 0, .code (cAt Tryd.f9 [1, 1, 1, 1, 1, 1, 1, 1, 1, 1, 1])]], cs := [noCodes, noCodes, noCodes] }
noncomputable def K9_1 : Kept := { todos := [[.inLoop (cAt Tryd.f9 [1, 1, 1, 1, 1, 1, 1, 1, 1, 1, 1, 1, 1, 0, 1, 0, 0]), .inBlock 2, .code (cAt Tryd.f9 [1, 1, 1, 1, 1, 1, 1, 1, 1, 1, 1, 1, 1, 1])]], cs := [noCodes] }
theorem E9 (G : (n : Nat) → Kept → denK (specAt S9 n) → Option (denL [.bool])) (t0 : (Int × (List (Int × Int × Unit)) × Unit)) (t1 : (List Int)) : enter cx49 S9 [.bool] 6000 some G 9 [(.struct [(.int .i64), (.slice (.struct [(.int .i64), (.int .i64)]))]), (.slice (.int .u8))] (t0, (t1, ())) =
  Option.bind (F39 (t0, ())) fun (y : Bool × Unit) =>
 bif !Prod.fst y then Option.bind (F35 (t0, ())) fun (y : List Int × Int × Unit) => bif Prod.fst (Prod.snd y) != 0 then Option.bind (F22 ()) fun (y : Bool × Unit) => some (Prod.fst y, ()) else some (false, ())
 else
  Option.bind (F40 (t0, t1, ())) fun (y : List Int × Unit) =>
   Option.bind (F41 (t0, Prod.fst y, t1, ())) fun (y_1 : (Int × List (Int × Int × Unit) × Unit) × Unit) =>
    Option.bind (F35 (Prod.fst y_1, ())) fun (y_2 : List Int × Int × Unit) =>
     Option.bind (F23 (Prod.fst y_1, ())) fun (y_3 : (Int × Int × Unit) × (Int × Int × Unit) × Int × Unit) =>
      Option.bind (F28 (Prod.fst y_1, ())) fun (y_4 : List Int × List Int × Int × Unit) =>
       Option.bind (F31 (Prod.fst y_1, ())) fun (y_5 : List Int × List Int × Int × Unit) =>
        bif Prod.fst (Prod.snd y_2) != 0 then some (false, ())
        else
         bif Prod.fst (Prod.snd (Prod.snd y_3)) != 0 then some (false, ())
         else
          bif Prod.fst (Prod.snd (Prod.snd y_4)) != 0 then some (false, ())
          else
           bif Prod.fst (Prod.snd (Prod.snd y_5)) != 0 then some (false, ())
           else
            bif decide ((↑(List.length (Prod.fst y_2)) : Int) > 0) then some (false, ())
            else
             Option.bind (F42 (Prod.fst y_3, (↑(List.length (Prod.fst (Prod.snd (Prod.fst y_1)))) : Int), ())) fun (y_6 : Bool × Unit) =>
              bif !Prod.fst y_6 then some (false, ())
              else
               Option.bind (F42 (Prod.fst (Prod.snd y_3), (↑(List.length (Prod.fst (Prod.snd (Prod.fst y_1)))) : Int), ())) fun (y_7 : Bool × Unit) => bif !Prod.fst y_7 then some (false, ()) else G 0 K9_0 (((Prod.fst y, (), (), (), Prod.fst y_4, Prod.fst (Prod.snd y_4), Prod.fst y_5, Prod.fst (Prod.snd y_5), 0, 0, 0, ()), ()), Prod.fst y_1, Prod.fst y_3, Prod.fst (Prod.snd y_3), ()) := by kernel_rfl
theorem Q9_0 (G : (n : Nat) → Kept → denK (specAt S9 n) → Option (denL [.bool])) (t7 : (List Int)) (t14 : (List Int)) (t15 : (List Int)) (t17 : (List Int)) (t18 : (List Int)) (t20 : Int) (t21 : Int) (t22 : Int) (h0 : (Int × (List (Int × Int × Unit)) × Unit)) (h1 : (Int × Int × Unit)) (h2 : (Int × Int × Unit)) : seg cx49 S9 [.bool] 6000 some G 0 K9_0 (((t7, ((), ((), ((), (t14, (t15, (t17, (t18, (t20, (t21, (t22, ()))))))))))), ()), (h0, (h1, (h2, ())))) =
  bif decide (t22 < (↑(List.length t7) : Int)) then
 bif decide (0 ≤ t22) && decide (t22 < (↑(List.length t7) : Int)) then
  bif decide (0 ≤ t22) && decide (t22 < (↑(List.length t7) : Int)) then G 0 K9_0 (((t7, (), (), (), t14, t15, t17, t18, IntKind.wrap IntKind.i64 (t20 + List.getD t7 (Int.toNat t22) 0), if List.getD t7 (Int.toNat t22) 0 > t21 then List.getD t7 (Int.toNat t22) 0 else t21, IntKind.wrap IntKind.i64 (t22 + 1), ()), ()), h0, h1, h2, ()) else none
 else none
 else Option.bind (F43 (t20, (↑(List.length t7) : Int), ())) fun (y : (Int × Int × Unit) × Unit) => Option.bind (F44 (Prod.fst y, Prod.fst y, h1, h2, ())) fun (y : Bool × Unit) => bif !Prod.fst y then some (false, ()) else G 1 K9_1 (((t7, (), t14, t15, t17, t18, t21, 0, ()), ()), h0, ()) := by kernel_rfl
theorem Q9_1 (G : (n : Nat) → Kept → denK (specAt S9 n) → Option (denL [.bool])) (t7 : (List Int)) (t14 : (List Int)) (t15 : (List Int)) (t17 : (List Int)) (t18 : (List Int)) (t21 : Int) (t24 : Int) (h0 : (Int × (List (Int × Int × Unit)) × Unit)) : seg cx49 S9 [.bool] 6000 some G 1 K9_1 (((t7, ((), (t14, (t15, (t17, (t18, (t21, (t24, ())))))))), ()), (h0, ())) =
  bif decide (t24 < (↑(List.length t7) : Int)) then
 Option.bind (F20 (h0, t24, ())) fun (y : (Int × Int × Unit) × Int × Unit) =>
  bif Prod.fst (Prod.snd y) != 0 then some (false, ())
  else
   bif decide (0 ≤ t24) && decide (t24 < (↑(List.length t7) : Int)) then
    Option.bind (F45 (List.getD t7 (Int.toNat t24) 0, Prod.fst y, ())) fun (y : Bool × Unit) =>
     bif !Prod.fst y then some (false, ())
     else
      bif decide (0 ≤ t24) && decide (t24 < (↑(List.length t7) : Int)) then
       bif List.getD t7 (Int.toNat t24) 0 == t21 then
        Option.bind (F46 (t15, t24, ())) fun (y : Bool × Unit) =>
         bif !Prod.fst y then some (false, ())
         else
          bif decide (0 ≤ t24) && decide (t24 < (↑(List.length t7) : Int)) then
           bif decide (List.getD t7 (Int.toNat t24) 0 < t21) then
            Option.bind (F46 (t14, t24, ())) fun (y : Bool × Unit) =>
             bif Prod.fst y then some (false, ())
             else
              bif decide (t24 > 0) then
               bif decide (0 ≤ t24) && decide (t24 < (↑(List.length t7) : Int)) then
                bif decide (0 ≤ if IntKind.wrap IntKind.i64 (t24 - 1) > 0 then IntKind.wrap IntKind.i64 (t24 - 1) else 0) && decide ((if IntKind.wrap IntKind.i64 (t24 - 1) > 0 then IntKind.wrap IntKind.i64 (t24 - 1) else 0) < (↑(List.length t7) : Int)) then
                 bif decide (List.getD t7 (Int.toNat t24) 0 > List.getD t7 (Int.toNat (if IntKind.wrap IntKind.i64 (t24 - 1) > 0 then IntKind.wrap IntKind.i64 (t24 - 1) else 0)) 0) then
                  Option.bind (F46 (t18, t24, ())) fun (y : Bool × Unit) =>
                   bif !Prod.fst y then some (false, ())
                   else
                    bif !decide (List.getD t7 (Int.toNat t24) 0 > List.getD t7 (Int.toNat (if IntKind.wrap IntKind.i64 (t24 - 1) > 0 then IntKind.wrap IntKind.i64 (t24 - 1) else 0)) 0) then
                     Option.bind (F46 (t17, t24, ())) fun (y : Bool × Unit) => bif Prod.fst y then some (false, ()) else G 1 K9_1 (((t7, (), t14, t15, t17, t18, t21, IntKind.wrap IntKind.i64 (t24 + 1), ()), ()), h0, ())
                    else G 1 K9_1 (((t7, (), t14, t15, t17, t18, t21, IntKind.wrap IntKind.i64 (t24 + 1), ()), ()), h0, ())
                 else
                  bif !decide (List.getD t7 (Int.toNat t24) 0 > List.getD t7 (Int.toNat (if IntKind.wrap IntKind.i64 (t24 - 1) > 0 then IntKind.wrap IntKind.i64 (t24 - 1) else 0)) 0) then
                   Option.bind (F46 (t17, t24, ())) fun (y : Bool × Unit) => bif Prod.fst y then some (false, ()) else G 1 K9_1 (((t7, (), t14, t15, t17, t18, t21, IntKind.wrap IntKind.i64 (t24 + 1), ()), ()), h0, ())
                  else G 1 K9_1 (((t7, (), t14, t15, t17, t18, t21, IntKind.wrap IntKind.i64 (t24 + 1), ()), ()), h0, ())
                else none
               else none
              else Option.bind (F46 (t17, t24, ())) fun (y : Bool × Unit) => bif Prod.fst y then some (false, ()) else G 1 K9_1 (((t7, (), t14, t15, t17, t18, t21, IntKind.wrap IntKind.i64 (t24 + 1), ()), ()), h0, ())
           else
            bif decide (t24 > 0) then
             bif decide (0 ≤ t24) && decide (t24 < (↑(List.length t7) : Int)) then
              bif decide (0 ≤ if IntKind.wrap IntKind.i64 (t24 - 1) > 0 then IntKind.wrap IntKind.i64 (t24 - 1) else 0) && decide ((if IntKind.wrap IntKind.i64 (t24 - 1) > 0 then IntKind.wrap IntKind.i64 (t24 - 1) else 0) < (↑(List.length t7) : Int)) then
               bif decide (List.getD t7 (Int.toNat t24) 0 > List.getD t7 (Int.toNat (if IntKind.wrap IntKind.i64 (t24 - 1) > 0 then IntKind.wrap IntKind.i64 (t24 - 1) else 0)) 0) then
                Option.bind (F46 (t18, t24, ())) fun (y : Bool × Unit) =>
                 bif !Prod.fst y then some (false, ())
                 else
                  bif !decide (List.getD t7 (Int.toNat t24) 0 > List.getD t7 (Int.toNat (if IntKind.wrap IntKind.i64 (t24 - 1) > 0 then IntKind.wrap IntKind.i64 (t24 - 1) else 0)) 0) then
                   Option.bind (F46 (t17, t24, ())) fun (y : Bool × Unit) => bif Prod.fst y then some (false, ()) else G 1 K9_1 (((t7, (), t14, t15, t17, t18, t21, IntKind.wrap IntKind.i64 (t24 + 1), ()), ()), h0, ())
                  else G 1 K9_1 (((t7, (), t14, t15, t17, t18, t21, IntKind.wrap IntKind.i64 (t24 + 1), ()), ()), h0, ())
               else
                bif !decide (List.getD t7 (Int.toNat t24) 0 > List.getD t7 (Int.toNat (if IntKind.wrap IntKind.i64 (t24 - 1) > 0 then IntKind.wrap IntKind.i64 (t24 - 1) else 0)) 0) then Option.bind (F46 (t17, t24, ())) fun (y : Bool × Unit) => bif Prod.fst y then some (false, ()) else G 1 K9_1 (((t7, (), t14, t15, t17, t18, t21, IntKind.wrap IntKind.i64 (t24 + 1), ()), ()), h0, ())
                else G 1 K9_1 (((t7, (), t14, t15, t17, t18, t21, IntKind.wrap IntKind.i64 (t24 + 1), ()), ()), h0, ())
              else none
             else none
            else Option.bind (F46 (t17, t24, ())) fun (y : Bool × Unit) => bif Prod.fst y then some (false, ()) else G 1 K9_1 (((t7, (), t14, t15, t17, t18, t21, IntKind.wrap IntKind.i64 (t24 + 1), ()), ()), h0, ())
          else none
       else
        bif decide (0 ≤ t24) && decide (t24 < (↑(List.length t7) : Int)) then
         bif decide (List.getD t7 (Int.toNat t24) 0 < t21) then
          Option.bind (F46 (t14, t24, ())) fun (y : Bool × Unit) =>
           bif Prod.fst y then some (false, ())
           else
            bif decide (t24 > 0) then
             bif decide (0 ≤ t24) && decide (t24 < (↑(List.length t7) : Int)) then
              bif decide (0 ≤ if IntKind.wrap IntKind.i64 (t24 - 1) > 0 then IntKind.wrap IntKind.i64 (t24 - 1) else 0) && decide ((if IntKind.wrap IntKind.i64 (t24 - 1) > 0 then IntKind.wrap IntKind.i64 (t24 - 1) else 0) < (↑(List.length t7) : Int)) then
               bif decide (List.getD t7 (Int.toNat t24) 0 > List.getD t7 (Int.toNat (if IntKind.wrap IntKind.i64 (t24 - 1) > 0 then IntKind.wrap IntKind.i64 (t24 - 1) else 0)) 0) then
                Option.bind (F46 (t18, t24, ())) fun (y : Bool × Unit) =>
                 bif !Prod.fst y then some (false, ())
                 else
                  bif !decide (List.getD t7 (Int.toNat t24) 0 > List.getD t7 (Int.toNat (if IntKind.wrap IntKind.i64 (t24 - 1) > 0 then IntKind.wrap IntKind.i64 (t24 - 1) else 0)) 0) then
                   Option.bind (F46 (t17, t24, ())) fun (y : Bool × Unit) => bif Prod.fst y then some (false, ()) else G 1 K9_1 (((t7, (), t14, t15, t17, t18, t21, IntKind.wrap IntKind.i64 (t24 + 1), ()), ()), h0, ())
                  else G 1 K9_1 (((t7, (), t14, t15, t17, t18, t21, IntKind.wrap IntKind.i64 (t24 + 1), ()), ()), h0, ())
               else
                bif !decide (List.getD t7 (Int.toNat t24) 0 > List.getD t7 (Int.toNat (if IntKind.wrap IntKind.i64 (t24 - 1) > 0 then IntKind.wrap IntKind.i64 (t24 - 1) else 0)) 0) then Option.bind (F46 (t17, t24, ())) fun (y : Bool × Unit) => bif Prod.fst y then some (false, ()) else G 1 K9_1 (((t7, (), t14, t15, t17, t18, t21, IntKind.wrap IntKind.i64 (t24 + 1), ()), ()), h0, ())
                else G 1 K9_1 (((t7, (), t14, t15, t17, t18, t21, IntKind.wrap IntKind.i64 (t24 + 1), ()), ()), h0, ())
              else none
             else none
            else Option.bind (F46 (t17, t24, ())) fun (y : Bool × Unit) => bif Prod.fst y then some (false, ()) else G 1 K9_1 (((t7, (), t14, t15, t17, t18, t21, IntKind.wrap IntKind.i64 (t24 + 1), ()), ()), h0, ())
         else
          bif decide (t24 > 0) then
           bif decide (0 ≤ t24) && decide (t24 < (↑(List.length t7) : Int)) then
            bif decide (0 ≤ if IntKind.wrap IntKind.i64 (t24 - 1) > 0 then IntKind.wrap IntKind.i64 (t24 - 1) else 0) && decide ((if IntKind.wrap IntKind.i64 (t24 - 1) > 0 then IntKind.wrap IntKind.i64 (t24 - 1) else 0) < (↑(List.length t7) : Int)) then
             bif decide (List.getD t7 (Int.toNat t24) 0 > List.getD t7 (Int.toNat (if IntKind.wrap IntKind.i64 (t24 - 1) > 0 then IntKind.wrap IntKind.i64 (t24 - 1) else 0)) 0) then
              Option.bind (F46 (t18, t24, ())) fun (y : Bool × Unit) =>
               bif !Prod.fst y then some (false, ())
               else
                bif !decide (List.getD t7 (Int.toNat t24) 0 > List.getD t7 (Int.toNat (if IntKind.wrap IntKind.i64 (t24 - 1) > 0 then IntKind.wrap IntKind.i64 (t24 - 1) else 0)) 0) then Option.bind (F46 (t17, t24, ())) fun (y : Bool × Unit) => bif Prod.fst y then some (false, ()) else G 1 K9_1 (((t7, (), t14, t15, t17, t18, t21, IntKind.wrap IntKind.i64 (t24 + 1), ()), ()), h0, ())
                else G 1 K9_1 (((t7, (), t14, t15, t17, t18, t21, IntKind.wrap IntKind.i64 (t24 + 1), ()), ()), h0, ())
             else
              bif !decide (List.getD t7 (Int.toNat t24) 0 > List.getD t7 (Int.toNat (if IntKind.wrap IntKind.i64 (t24 - 1) > 0 then IntKind.wrap IntKind.i64 (t24 - 1) else 0)) 0) then Option.bind (F46 (t17, t24, ())) fun (y : Bool × Unit) => bif Prod.fst y then some (false, ()) else G 1 K9_1 (((t7, (), t14, t15, t17, t18, t21, IntKind.wrap IntKind.i64 (t24 + 1), ()), ()), h0, ())
              else G 1 K9_1 (((t7, (), t14, t15, t17, t18, t21, IntKind.wrap IntKind.i64 (t24 + 1), ()), ()), h0, ())
            else none
           else none
          else Option.bind (F46 (t17, t24, ())) fun (y : Bool × Unit) => bif Prod.fst y then some (false, ()) else G 1 K9_1 (((t7, (), t14, t15, t17, t18, t21, IntKind.wrap IntKind.i64 (t24 + 1), ()), ()), h0, ())
        else none
      else none
   else none
 else Option.bind (F22 ()) fun (y : Bool × Unit) => some (Prod.fst y, ()) := by kernel_rfl
noncomputable def F9 : denL [(.struct [(.int .i64), (.slice (.struct [(.int .i64), (.int .i64)]))]), (.slice (.int .u8))] → Option (denL [.bool]) := ghost cx49 S9 6000 9 [(.struct [(.int .i64), (.slice (.struct [(.int .i64), (.int .i64)]))]), (.slice (.int .u8))] [.bool]
end Go.Proofs.YtjigflnjgmgmnaaDoor
