/- The context for the statements: a slice that is built to be appended to. Conditions: none. -/
import Derived.Test.YtkbephbhajplhaaDoorCyR
namespace Go.Proofs.YtkbephbhajplhaaDoor
open Go Go.Gh Go.Proofs
noncomputable def cxF : Ctx := { cx113 with full := fun n => Nat.beq n 350012 }
end Go.Proofs.YtkbephbhajplhaaDoor
/- What the ghost comes to: examples. Conditions: none (equations, each by computation). -/
namespace Go.Proofs.YtkbephbhajplhaaDoor
open Go Go.Gh Go.Proofs
def S36 : List Gh.Spec := []
theorem E36 (G : (n : Nat) → Kept → denK (specAt S36 n) → Option (denL [(.struct [(.int .i64), (.int .i64)])])) (t0 : Int) (t1 : Int) : enter cxF S36 [(.struct [(.int .i64), (.int .i64)])] 6000 some G 36 [(.int .i64), (.int .i64)] (t0, (t1, ())) =
  some ((t0, t1, ()), ()) := by kernel_rfl
noncomputable def F36 : denL [(.int .i64), (.int .i64)] → Option (denL [(.struct [(.int .i64), (.int .i64)])]) := ghost cxF S36 6000 36 [(.int .i64), (.int .i64)] [(.struct [(.int .i64), (.int .i64)])]
noncomputable def C36 : Con := ⟨[(.int .i64), (.int .i64)], [(.struct [(.int .i64), (.int .i64)])], F36⟩
noncomputable def cx36 : Ctx := cxF.add 36 C36
def S37 : List Gh.Spec := []
theorem E37 (G : (n : Nat) → Kept → denK (specAt S37 n) → Option (denL [(.struct [(.int .i64), (.int .i64)])])) (t0 : Int) (t1 : Int) : enter cx36 S37 [(.struct [(.int .i64), (.int .i64)])] 6000 some G 37 [(.int .i64), (.int .i64)] (t0, (t1, ())) =
  some ((t0, t1, ()), ()) := by kernel_rfl
noncomputable def F37 : denL [(.int .i64), (.int .i64)] → Option (denL [(.struct [(.int .i64), (.int .i64)])]) := ghost cx36 S37 6000 37 [(.int .i64), (.int .i64)] [(.struct [(.int .i64), (.int .i64)])]
noncomputable def C37 : Con := ⟨[(.int .i64), (.int .i64)], [(.struct [(.int .i64), (.int .i64)])], F37⟩
noncomputable def cx37 : Ctx := cx36.add 37 C37
def S94 : List Gh.Spec := []
theorem E94 (G : (n : Nat) → Kept → denK (specAt S94 n) → Option (denL [(.struct [(.int .i64), (.int .i64), (.struct [(.int .i64), (.int .i64)])])])) (t0 : Int) (t1 : Int) (t2 : Int) (t3 : Int) : enter cx37 S94 [(.struct [(.int .i64), (.int .i64), (.struct [(.int .i64), (.int .i64)])])] 6000 some G 94 [(.int .i64), (.int .i64), (.int .i64), (.int .i64)] (t0, (t1, (t2, (t3, ())))) =
  Option.bind (F36 (t2, t3, ())) fun (y : (Int × Int × Unit) × Unit) => some ((t0, t1, Prod.fst y, ()), ()) := by kernel_rfl
noncomputable def F94 : denL [(.int .i64), (.int .i64), (.int .i64), (.int .i64)] → Option (denL [(.struct [(.int .i64), (.int .i64), (.struct [(.int .i64), (.int .i64)])])]) := ghost cx37 S94 6000 94 [(.int .i64), (.int .i64), (.int .i64), (.int .i64)] [(.struct [(.int .i64), (.int .i64), (.struct [(.int .i64), (.int .i64)])])]
noncomputable def C94 : Con := ⟨[(.int .i64), (.int .i64), (.int .i64), (.int .i64)], [(.struct [(.int .i64), (.int .i64), (.struct [(.int .i64), (.int .i64)])])], F94⟩
noncomputable def cx94 : Ctx := cx37.add 94 C94
def S35 : List Gh.Spec := []
theorem E35 (G : (n : Nat) → Kept → denK (specAt S35 n) → Option (denL [(.struct [(.slice (.struct [(.int .i64), (.int .i64)])), (.slice (.struct [(.int .i64), (.int .i64), (.struct [(.int .i64), (.int .i64)])])), (.struct [(.int .i64), (.int .i64)])])])) (t0 : (List (Int × Int × (Int × Int × Unit) × Unit))) : enter cx94 S35 [(.struct [(.slice (.struct [(.int .i64), (.int .i64)])), (.slice (.struct [(.int .i64), (.int .i64), (.struct [(.int .i64), (.int .i64)])])), (.struct [(.int .i64), (.int .i64)])])] 6000 some G 35 [(.slice (.struct [(.int .i64), (.int .i64), (.struct [(.int .i64), (.int .i64)])]))] (t0, ()) =
  Option.bind (F36 (10, 10, ())) fun (y : (Int × Int × Unit) × Unit) =>
 Option.bind (F36 (30, 32, ())) fun (y_1 : (Int × Int × Unit) × Unit) =>
  Option.bind (F36 (20, 21, ())) fun (y_2 : (Int × Int × Unit) × Unit) =>
   Option.bind (F36 (5, 5, ())) fun (y_3 : (Int × Int × Unit) × Unit) =>
    Option.bind (F36 (25, 28, ())) fun (y_4 : (Int × Int × Unit) × Unit) =>
     Option.bind (F36 (26, 27, ())) fun (y_5 : (Int × Int × Unit) × Unit) =>
      Option.bind (F36 (12, 12, ())) fun (y_6 : (Int × Int × Unit) × Unit) =>
       Option.bind (F94 (4, 5, 54, 54, ())) fun (y_7 : (Int × Int × (Int × Int × Unit) × Unit) × Unit) =>
        bif decide (List.length (List.set (List.replicate 1 (0, 0, (0, 0, ()), ())) 0 (Prod.fst y_7)) + List.length t0 ≤ 2147483648) then
         Option.bind (F36 (2, 3, ())) fun (y_8 : (Int × Int × Unit) × Unit) =>
          some ((List.set (List.set (List.set (List.set (List.set (List.set (List.set (List.replicate 7 (0, 0, ())) 0 (Prod.fst y)) 1 (Prod.fst y_1)) 2 (Prod.fst y_2)) 3 (Prod.fst y_3)) 4 (Prod.fst y_4)) 5 (Prod.fst y_5)) 6 (Prod.fst y_6), List.set (List.replicate 1 (0, 0, (0, 0, ()), ())) 0 (Prod.fst y_7) ++ t0, Prod.fst y_8, ()), ())
        else none := by kernel_rfl
noncomputable def F35 : denL [(.slice (.struct [(.int .i64), (.int .i64), (.struct [(.int .i64), (.int .i64)])]))] → Option (denL [(.struct [(.slice (.struct [(.int .i64), (.int .i64)])), (.slice (.struct [(.int .i64), (.int .i64), (.struct [(.int .i64), (.int .i64)])])), (.struct [(.int .i64), (.int .i64)])])]) := ghost cx94 S35 6000 35 [(.slice (.struct [(.int .i64), (.int .i64), (.struct [(.int .i64), (.int .i64)])]))] [(.struct [(.slice (.struct [(.int .i64), (.int .i64)])), (.slice (.struct [(.int .i64), (.int .i64), (.struct [(.int .i64), (.int .i64)])])), (.struct [(.int .i64), (.int .i64)])])]
noncomputable def C35 : Con := ⟨[(.slice (.struct [(.int .i64), (.int .i64), (.struct [(.int .i64), (.int .i64)])]))], [(.struct [(.slice (.struct [(.int .i64), (.int .i64)])), (.slice (.struct [(.int .i64), (.int .i64), (.struct [(.int .i64), (.int .i64)])])), (.struct [(.int .i64), (.int .i64)])])], F35⟩
noncomputable def cx35 : Ctx := cx94.add 35 C35
def S23 : List Gh.Spec := []
theorem E23 (G : (n : Nat) → Kept → denK (specAt S23 n) → Option (denL [.bool]))  : enter cx35 S23 [.bool] 6000 some G 23 [] () =
  Option.bind (F35 ([], ())) fun (y : (List (Int × Int × Unit) × List (Int × Int × (Int × Int × Unit) × Unit) × (Int × Int × Unit) × Unit) × Unit) =>
 Option.bind (F94 (1, 2, 60, 70, ())) fun (y_1 : (Int × Int × (Int × Int × Unit) × Unit) × Unit) =>
  Option.bind (F35 (List.set (List.replicate 1 (0, 0, (0, 0, ()), ())) 0 (Prod.fst y_1), ())) fun (y_2 : (List (Int × Int × Unit) × List (Int × Int × (Int × Int × Unit) × Unit) × (Int × Int × Unit) × Unit) × Unit) =>
   Option.bind (F19 (Prod.fst y, 4, ())) fun (y_3 : (Int × Int × Unit) × Int × Unit) =>
    Option.bind (F21 (Prod.fst y, 0, 3, ())) fun (y_4 : (Int × Int × Unit) × (Int × Int × Unit) × Int × Unit) =>
     Option.bind (F24 (Prod.fst y, 1, ())) fun (y_5 : Int × Int × Int × Unit) =>
      Option.bind (F24 (Prod.fst y, 3, ())) fun (y_6 : Int × Int × Int × Unit) =>
       Option.bind (F24 (Prod.fst y, 4, ())) fun (y_7 : Int × Int × Int × Unit) =>
        Option.bind (F26 (Prod.fst y, ())) fun (y_8 : (Int × Int × Unit) × Int × Unit) =>
         Option.bind (F28 (Prod.fst y, ())) fun (y_9 : (Int × Int × Unit) × Int × Unit) =>
          Option.bind (F36 (20, 30, ())) fun (y_10 : (Int × Int × Unit) × Unit) =>
           Option.bind (F30 (Prod.fst y, Prod.fst y_10, 1, ())) fun (y_11 : List Int × Int × Unit) =>
            Option.bind (F36 (20, 30, ())) fun (y_12 : (Int × Int × Unit) × Unit) =>
             Option.bind (F30 (Prod.fst y, Prod.fst y_12, 2, ())) fun (y : List Int × Int × Unit) =>
              Option.bind (F33 (Prod.fst y_2, ())) fun (y_13 : List Int × Int × Unit) =>
               Option.bind (F28 (Prod.fst y_2, ())) fun (y_14 : (Int × Int × Unit) × Int × Unit) =>
                bif Prod.fst (Prod.snd y_3) == 0 then
                 bif Prod.fst (Prod.snd (Prod.snd y_4)) == 0 then
                  bif Prod.fst (Prod.snd (Prod.snd y_5)) == 0 then
                   bif Prod.fst (Prod.snd (Prod.snd y_6)) == 0 then
                    bif Prod.fst (Prod.snd (Prod.snd y_7)) == 0 then
                     bif Prod.fst (Prod.snd y_8) == 0 then
                      bif Prod.fst (Prod.snd y_9) == 0 then
                       bif Prod.fst (Prod.snd y_11) == 0 then
                        bif Prod.fst (Prod.snd y) == 0 then
                         bif Prod.fst (Prod.snd y_13) == 0 then
                          bif Prod.fst (Prod.snd y_14) == 8 then
                           Option.bind (F36 (27, 28, ())) fun (y_15 : (Int × Int × Unit) × Unit) =>
                            bif eqD (Ty.struct [Ty.int IntKind.i64, Ty.int IntKind.i64]) (Prod.fst y_3) (Prod.fst y_15) then
                             Option.bind (F37 (65, 4, ())) fun (y_16 : (Int × Int × Unit) × Unit) =>
                              bif eqD (Ty.struct [Ty.int IntKind.i64, Ty.int IntKind.i64]) (Prod.fst y_4) (Prod.fst y_16) then
                               Option.bind (F37 (17, 1, ())) fun (y_17 : (Int × Int × Unit) × Unit) =>
                                bif eqD (Ty.struct [Ty.int IntKind.i64, Ty.int IntKind.i64]) (Prod.fst (Prod.snd y_4)) (Prod.fst y_17) then
                                 bif Prod.fst y_5 == 1 then
                                  bif Prod.fst (Prod.snd y_5) == 2 then
                                   bif Prod.fst y_6 == 2 then
                                    bif Prod.fst (Prod.snd y_6) == 1 then
                                     bif Prod.fst y_7 == 0 then
                                      Option.bind (F36 (3, 3, ())) fun (y_18 : (Int × Int × Unit) × Unit) =>
                                       bif eqD (Ty.struct [Ty.int IntKind.i64, Ty.int IntKind.i64]) (Prod.fst y_8) (Prod.fst y_18) then
                                        Option.bind (F36 (7, 7, ())) fun (y_19 : (Int × Int × Unit) × Unit) =>
                                         bif eqD (Ty.struct [Ty.int IntKind.i64, Ty.int IntKind.i64]) (Prod.fst y_9) (Prod.fst y_19) then
                                          Option.bind (F32 (Prod.fst y_11, 1 :: 4 :: List.replicate 0 0, ())) fun (y_20 : Bool × Unit) =>
                                           bif Prod.fst y_20 then Option.bind (F32 (Prod.fst y, 2 :: 5 :: List.replicate 0 0, ())) fun (y : Bool × Unit) => bif Prod.fst y then Option.bind (F32 (Prod.fst y_13, 1 :: List.replicate 0 0, ())) fun (y : Bool × Unit) => some (Prod.fst y, ()) else some (false, ()) else some (false, ())
                                         else some (false, ())
                                       else some (false, ())
                                     else some (false, ())
                                    else some (false, ())
                                   else some (false, ())
                                  else some (false, ())
                                 else some (false, ())
                                else some (false, ())
                              else some (false, ())
                            else some (false, ())
                          else some (false, ())
                         else some (false, ())
                        else some (false, ())
                       else some (false, ())
                      else some (false, ())
                     else some (false, ())
                    else some (false, ())
                   else some (false, ())
                  else some (false, ())
                 else some (false, ())
                else some (false, ()) := by kernel_rfl
noncomputable def F23 : denL [] → Option (denL [.bool]) := ghost cx35 S23 6000 23 [] [.bool]
noncomputable def C23 : Con := ⟨[], [.bool], F23⟩
noncomputable def cx23 : Ctx := cx35.add 23 C23
end Go.Proofs.YtkbephbhajplhaaDoor
