/- What the ghost comes to: D. Conditions: none (equations, each by computation). -/
import Derived.Test.YtjigflnjgmgmnaaDoorClE
namespace Go.Proofs.YtjigflnjgmgmnaaDoor
open Go Go.Gh Go.Proofs
def S38 : List Gh.Spec := []
theorem E38 (G : (n : Nat) → Kept → denK (specAt S38 n) → Option (denL [(.struct [(.int .i64), (.int .i64)])])) (t0 : Int) (t1 : Int) : enter cx27 S38 [(.struct [(.int .i64), (.int .i64)])] 6000 some G 38 [(.int .i64), (.int .i64)] (t0, (t1, ())) =
  some ((t0, t1, ()), ()) := by kernel_rfl
noncomputable def F38 : denL [(.int .i64), (.int .i64)] → Option (denL [(.struct [(.int .i64), (.int .i64)])]) := ghost cx27 S38 6000 38 [(.int .i64), (.int .i64)] [(.struct [(.int .i64), (.int .i64)])]
noncomputable def C38 : Con := ⟨[(.int .i64), (.int .i64)], [(.struct [(.int .i64), (.int .i64)])], F38⟩
noncomputable def cx38 : Ctx := cx27.add 38 C38
def S91 : List Gh.Spec := []
theorem E91 (G : (n : Nat) → Kept → denK (specAt S91 n) → Option (denL [(.struct [(.int .i64), (.int .i64)])])) (t0 : Int) (t1 : Int) : enter cx38 S91 [(.struct [(.int .i64), (.int .i64)])] 6000 some G 91 [(.int .i64), (.int .i64)] (t0, (t1, ())) =
  some ((t0, t1, ()), ()) := by kernel_rfl
noncomputable def F91 : denL [(.int .i64), (.int .i64)] → Option (denL [(.struct [(.int .i64), (.int .i64)])]) := ghost cx38 S91 6000 91 [(.int .i64), (.int .i64)] [(.struct [(.int .i64), (.int .i64)])]
noncomputable def C91 : Con := ⟨[(.int .i64), (.int .i64)], [(.struct [(.int .i64), (.int .i64)])], F91⟩
noncomputable def cx91 : Ctx := cx38.add 91 C91
def S37 : List Gh.Spec := []
theorem E37 (G : (n : Nat) → Kept → denK (specAt S37 n) → Option (denL [(.struct [(.int .i64), (.slice (.struct [(.int .i64), (.int .i64)]))])])) (t0 : Int) : enter cx91 S37 [(.struct [(.int .i64), (.slice (.struct [(.int .i64), (.int .i64)]))])] 6000 some G 37 [(.int .i64)] (t0, ()) =
  some ((10, List.set (List.set ((2, 30, ()) :: (0, 0, ()) :: (1, 45, ()) :: (0, 0, ()) :: List.replicate 2 (0, 0, ())) 4 (3, t0, ())) 5 (2, 50, ()), ()), ()) := by kernel_rfl
noncomputable def F37 : denL [(.int .i64)] → Option (denL [(.struct [(.int .i64), (.slice (.struct [(.int .i64), (.int .i64)]))])]) := ghost cx91 S37 6000 37 [(.int .i64)] [(.struct [(.int .i64), (.slice (.struct [(.int .i64), (.int .i64)]))])]
noncomputable def C37 : Con := ⟨[(.int .i64)], [(.struct [(.int .i64), (.slice (.struct [(.int .i64), (.int .i64)]))])], F37⟩
noncomputable def cx37 : Ctx := cx91.add 37 C37
def S22 : List Gh.Spec := []
theorem E22 (G : (n : Nat) → Kept → denK (specAt S22 n) → Option (denL [.bool]))  : enter cx37 S22 [.bool] 6000 some G 22 [] () =
  Option.bind (F37 (55, ())) fun (y : (Int × List (Int × Int × Unit) × Unit) × Unit) =>
 Option.bind (F37 (80, ())) fun (y_1 : (Int × List (Int × Int × Unit) × Unit) × Unit) =>
  Option.bind (F20 (Prod.fst y, 3, ())) fun (y_2 : (Int × Int × Unit) × Int × Unit) =>
   Option.bind (F23 (Prod.fst y, ())) fun (y_3 : (Int × Int × Unit) × (Int × Int × Unit) × Int × Unit) =>
    Option.bind (F25 (Prod.fst y, 3, 50, ())) fun (y_4 : (Int × Int × Unit) × (Int × Int × Unit) × Int × Unit) =>
     Option.bind (F25 (Prod.fst y, 3, 70, ())) fun (y_5 : (Int × Int × Unit) × (Int × Int × Unit) × Int × Unit) =>
      Option.bind (F28 (Prod.fst y, ())) fun (y_6 : List Int × List Int × Int × Unit) =>
       Option.bind (F31 (Prod.fst y, ())) fun (y_7 : List Int × List Int × Int × Unit) =>
        Option.bind (F33 (Prod.fst y, ())) fun (y : Int × Int × Int × Unit) =>
         Option.bind (F35 (Prod.fst y_1, ())) fun (y_8 : List Int × Int × Unit) =>
          Option.bind (F20 (Prod.fst y_1, 0, ())) fun (y_9 : (Int × Int × Unit) × Int × Unit) =>
           bif Prod.fst (Prod.snd y_2) == 0 then
            bif Prod.fst (Prod.snd (Prod.snd y_3)) == 0 then
             bif Prod.fst (Prod.snd (Prod.snd y_4)) == 0 then
              bif Prod.fst (Prod.snd (Prod.snd y_5)) == 9 then
               bif Prod.fst (Prod.snd (Prod.snd y_6)) == 0 then
                bif Prod.fst (Prod.snd (Prod.snd y_7)) == 0 then
                 bif Prod.fst (Prod.snd (Prod.snd y)) == 0 then
                  bif Prod.fst (Prod.snd y_8) == 0 then
                   bif Prod.fst (Prod.snd y_9) == 8 then
                    Option.bind (F38 (45, 60, ())) fun (y_10 : (Int × Int × Unit) × Unit) =>
                     bif eqD (Ty.struct [Ty.int IntKind.i64, Ty.int IntKind.i64]) (Prod.fst y_2) (Prod.fst y_10) then
                      Option.bind (F91 (130, 3, ())) fun (y_11 : (Int × Int × Unit) × Unit) =>
                       bif eqD (Ty.struct [Ty.int IntKind.i64, Ty.int IntKind.i64]) (Prod.fst y_3) (Prod.fst y_11) then
                        Option.bind (F91 (95, 2, ())) fun (y_12 : (Int × Int × Unit) × Unit) =>
                         bif eqD (Ty.struct [Ty.int IntKind.i64, Ty.int IntKind.i64]) (Prod.fst (Prod.snd y_3)) (Prod.fst y_12) then
                          Option.bind (F91 (265, 6, ())) fun (y_13 : (Int × Int × Unit) × Unit) =>
                           bif eqD (Ty.struct [Ty.int IntKind.i64, Ty.int IntKind.i64]) (Prod.fst y_4) (Prod.fst y_13) then
                            Option.bind (F91 (275, 6, ())) fun (y_14 : (Int × Int × Unit) × Unit) =>
                             bif eqD (Ty.struct [Ty.int IntKind.i64, Ty.int IntKind.i64]) (Prod.fst (Prod.snd y_4)) (Prod.fst y_14) then
                              bif (↑(List.length (Prod.fst y_6)) : Int) == 0 then
                               Option.bind (F30 (Prod.fst (Prod.snd y_6), 3 :: 4 :: List.replicate 0 0, ())) fun (y_15 : Bool × Unit) =>
                                bif Prod.fst y_15 then
                                 Option.bind (F30 (Prod.fst y_7, 1 :: 2 :: List.replicate 0 0, ())) fun (y_16 : Bool × Unit) =>
                                  bif Prod.fst y_16 then
                                   Option.bind (F30 (Prod.fst (Prod.snd y_7), 1 :: 2 :: 3 :: 4 :: List.replicate 0 0, ())) fun (y_17 : Bool × Unit) =>
                                    bif Prod.fst y_17 then bif Prod.fst y == 3 then bif Prod.fst (Prod.snd y) == 10 then Option.bind (F30 (Prod.fst y_8, 4 :: List.replicate 0 0, ())) fun (y : Bool × Unit) => some (Prod.fst y, ()) else some (false, ()) else some (false, ()) else some (false, ())
                                  else some (false, ())
                                else some (false, ())
                              else some (false, ())
                             else some (false, ())
                           else some (false, ())
                         else some (false, ())
                       else some (false, ())
                     else some (false, ())
                   else some (false, ())
                  else some (false, ())
                 else some (false, ())
                else some (false, ())
               else some (false, ())
              else some (false, ())
             else some (false, ())
            else some (false, ())
           else some (false, ()) := by kernel_rfl
noncomputable def F22 : denL [] → Option (denL [.bool]) := ghost cx37 S22 6000 22 [] [.bool]
noncomputable def C22 : Con := ⟨[], [.bool], F22⟩
noncomputable def cx22 : Ctx := cx37.add 22 C22
def S3 : List Gh.Spec := []
theorem E3 (G : (n : Nat) → Kept → denK (specAt S3 n) → Option (denL [.bool])) (t0 : (Int × (List (Int × Int × Unit)) × Unit)) (t1 : Int) : enter cx22 S3 [.bool] 6000 some G 3 [(.struct [(.int .i64), (.slice (.struct [(.int .i64), (.int .i64)]))]), (.int .i64)] (t0, (t1, ())) =
  Option.bind (F18 (t0, ())) fun (y : Int × Int × Int × Unit) =>
 Option.bind (F19 (t0, ())) fun (y_1 : Int × Int × Int × Unit) =>
  bif Prod.fst y != Prod.fst y_1 then some (false, ())
  else
   bif Prod.fst (Prod.snd y) != Prod.fst (Prod.snd y_1) then some (false, ())
   else
    bif Prod.fst (Prod.snd (Prod.snd y)) != Prod.fst (Prod.snd (Prod.snd y_1)) then some (false, ())
    else
     Option.bind (F20 (t0, t1, ())) fun (y : (Int × Int × Unit) × Int × Unit) =>
      Option.bind (F21 (t0, t1, ())) fun (y_2 : (Int × Int × Unit) × Int × Unit) => bif eqD (Ty.struct [Ty.int IntKind.i64, Ty.int IntKind.i64]) (Prod.fst y) (Prod.fst y_2) then bif Prod.fst (Prod.snd y) == Prod.fst (Prod.snd y_2) then Option.bind (F22 ()) fun (y : Bool × Unit) => some (Prod.fst y, ()) else some (false, ()) else some (false, ()) := by kernel_rfl
noncomputable def F3 : denL [(.struct [(.int .i64), (.slice (.struct [(.int .i64), (.int .i64)]))]), (.int .i64)] → Option (denL [.bool]) := ghost cx22 S3 6000 3 [(.struct [(.int .i64), (.slice (.struct [(.int .i64), (.int .i64)]))]), (.int .i64)] [.bool]
end Go.Proofs.YtjigflnjgmgmnaaDoor
