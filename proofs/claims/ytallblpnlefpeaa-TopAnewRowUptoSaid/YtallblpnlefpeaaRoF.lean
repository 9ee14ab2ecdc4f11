/- What the ghost comes to: the laws. Conditions: none (equations, each by computation). -/
import Derived.Test.YtallblpnlefpeaaRoD
namespace Go.Proofs.Ytallblpnlefpeaa
open Go Go.Gh Go.Proofs
def S104 : List Gh.Spec := [{ key := (0, 104, 2, 1), frs := [{ fn := 104, n := 41, regs := [(0, (.dat (.slice (.int .i64)))), (1, (.dat (.slice (.int .i64)))), (5, (.dat (.int .i64)))], round := none, defers := [] }], heap := [] }]
noncomputable def F104 : denL [(.slice (.int .i64)), (.slice (.int .i64))] → Option (denL [.bool]) := ghost cx25 S104 6000 104 [(.slice (.int .i64)), (.slice (.int .i64))] [.bool]
noncomputable def C104 : Con := ⟨[(.slice (.int .i64)), (.slice (.int .i64))], [.bool], F104⟩
noncomputable def cx104 : Ctx := cx25.add 104 C104
def S50 : List Gh.Spec := []
noncomputable def F50 : denL [(.slice (.int .i64)), (.slice (.int .i64))] → Option (denL [.bool]) := ghost cx104 S50 6000 50 [(.slice (.int .i64)), (.slice (.int .i64))] [.bool]
noncomputable def C50 : Con := ⟨[(.slice (.int .i64)), (.slice (.int .i64))], [.bool], F50⟩
noncomputable def cx50 : Ctx := cx104.add 50 C50
def S42 : List Gh.Spec := [{ key := (0, 42, 2, 1), frs := [{ fn := 42, n := 36, regs := [(0, (.dat (.slice (.int .i64)))), (1, (.dat (.int .i64))), (5, (.dat (.int .i64)))], round := none, defers := [] }], heap := [] }]
noncomputable def F42 : denL [(.slice (.int .i64)), (.int .i64)] → Option (denL [.bool]) := ghost cx50 S42 6000 42 [(.slice (.int .i64)), (.int .i64)] [.bool]
noncomputable def C42 : Con := ⟨[(.slice (.int .i64)), (.int .i64)], [.bool], F42⟩
noncomputable def cx42 : Ctx := cx50.add 42 C42
def S38 : List Gh.Spec := []
theorem E38 (G : (n : Nat) → Kept → denK (specAt S38 n) → Option (denL [tBk])) (t0 : Int) : enter cx42 S38 [tBk] 6000 some G 38 [(.int .i64)] (t0, ()) =
  some ((List.set (List.set ((5, false, ()) :: (7, false, ()) :: List.replicate 2 (0, false, ())) 2 (t0, false, ())) 3 (4, false, ()), ((0, 3, 0, ()) :: (0, 4, 0, ()) :: List.replicate 0 (0, 0, 0, ())) :: ((0, 8, 1, ()) :: List.replicate 0 (0, 0, 0, ())) :: ((1, 8, 1, ()) :: List.replicate 0 (0, 0, 0, ())) :: List.replicate 0 [], ()), ()) := by kernel_rfl
noncomputable def F38 : denL [(.int .i64)] → Option (denL [tBk]) := ghost cx42 S38 6000 38 [(.int .i64)] [tBk]
noncomputable def C38 : Con := ⟨[(.int .i64)], [tBk], F38⟩
noncomputable def cx38 : Ctx := cx42.add 38 C38
def S24 : List Gh.Spec := []
theorem E24 (G : (n : Nat) → Kept → denK (specAt S24 n) → Option (denL [.bool]))  : enter cx38 S24 [.bool] 6000 some G 24 [] () =
  Option.bind (F38 (12, ())) fun (y : Bk × Unit) =>
 Option.bind (F38 (13, ())) fun (y_1 : Bk × Unit) =>
  Option.bind (F20 (Prod.fst y, 1, ())) fun (y_2 : Int × Int × Unit) =>
   Option.bind (F22 (Prod.fst y, ())) fun (y_3 : Int × Int × Int × Int × Unit) =>
    Option.bind (F22 (Prod.fst y_1, ())) fun (y_4 : Int × Int × Int × Int × Unit) =>
     Option.bind (F25 (Prod.fst y, 0, ())) fun (y_5 : List Int × Int × Unit) =>
      Option.bind (F28 (Prod.fst y, 0, ())) fun (y_6 : List Int × Int × Unit) =>
       Option.bind (F28 (Prod.fst y, 3, ())) fun (y_7 : List Int × Int × Unit) =>
        Option.bind (F28 (Prod.fst y_1, 0, ())) fun (y_8 : List Int × Int × Unit) =>
         Option.bind (F30 (Prod.fst y, 1, ())) fun (y_9 : List Int × Int × Unit) =>
          Option.bind (F32 (Prod.fst y, 1, ())) fun (y_10 : List Int × Int × Unit) =>
           Option.bind (F34 (Prod.fst y, 0, ())) fun (y_11 : List Int × Int × Unit) =>
            Option.bind (F36 (Prod.fst y_1, ())) fun (y_12 : List Int × Int × Unit) =>
             Option.bind (F44 (Prod.fst y, 3 :: List.replicate 0 0, ())) fun (y : Bk × Unit) =>
              Option.bind (F20 (Prod.fst y, 1, ())) fun (y : Int × Int × Unit) =>
               bif Prod.fst (Prod.snd y_2) == 0 then
                bif Prod.fst (Prod.snd (Prod.snd (Prod.snd y_3))) == 9 then
                 bif Prod.fst (Prod.snd (Prod.snd (Prod.snd y_4))) == 0 then
                  bif Prod.fst (Prod.snd y_5) == 0 then
                   bif Prod.fst (Prod.snd y_6) == 0 then
                    bif Prod.fst (Prod.snd y_7) == 0 then
                     bif Prod.fst (Prod.snd y_8) == 0 then
                      bif Prod.fst (Prod.snd y_9) == 0 then
                       bif Prod.fst (Prod.snd y_10) == 0 then
                        bif Prod.fst (Prod.snd y_11) == 0 then
                         bif Prod.fst (Prod.snd y_12) == 0 then
                          bif Prod.fst (Prod.snd y) == 8 then
                           bif Prod.fst y_2 == 16 then
                            bif Prod.fst y_4 == 0 then
                             bif Prod.fst (Prod.snd y_4) == 0 then
                              bif Prod.fst (Prod.snd (Prod.snd y_4)) == 1 then
                               Option.bind (F27 (Prod.fst y_5, 0 :: 1 :: 2 :: List.replicate 0 0, ())) fun (y : Bool × Unit) =>
                                bif Prod.fst y then
                                 bif (↑(List.length (Prod.fst y_6)) : Int) == 0 then
                                  Option.bind (F27 (Prod.fst y_7, 1 :: 2 :: List.replicate 0 0, ())) fun (y : Bool × Unit) =>
                                   bif Prod.fst y then
                                    Option.bind (F27 (Prod.fst y_8, 0 :: 1 :: 2 :: List.replicate 0 0, ())) fun (y : Bool × Unit) =>
                                     bif Prod.fst y then
                                      Option.bind (F27 (Prod.fst y_9, 2 :: 3 :: List.replicate 0 0, ())) fun (y : Bool × Unit) =>
                                       bif Prod.fst y then
                                        Option.bind (F27 (Prod.fst y_10, 3 :: List.replicate 0 0, ())) fun (y : Bool × Unit) =>
                                         bif Prod.fst y then Option.bind (F27 (Prod.fst y_11, 0 :: 2 :: List.replicate 0 0, ())) fun (y : Bool × Unit) => bif Prod.fst y then Option.bind (F27 (Prod.fst y_12, 0 :: List.replicate 0 0, ())) fun (y : Bool × Unit) => some (Prod.fst y, ()) else some (false, ()) else some (false, ())
                                       else some (false, ())
                                     else some (false, ())
                                   else some (false, ())
                                 else some (false, ())
                                else some (false, ())
                              else some (false, ())
                             else some (false, ())
                            else some (false, ())
                           else some (false, ())
                          else some (false, ())
                         else some (false, ())
                        else some (false, ())
                       else some (false, ())
                      else some (false, ())
                     else some (false, ())
                    else some (false, ())
                   else some (false, ())
                  else some (false, ())
                 else some (false, ())
                else some (false, ())
               else some (false, ()) := by kernel_rfl
noncomputable def F24 : denL [] → Option (denL [.bool]) := ghost cx38 S24 6000 24 [] [.bool]
noncomputable def C24 : Con := ⟨[], [.bool], F24⟩
noncomputable def cx24 : Ctx := cx38.add 24 C24
def S39 : List Gh.Spec := []
noncomputable def F39 : denL [tBk] → Option (denL [.bool]) := ghost cx24 S39 6000 39 [tBk] [.bool]
noncomputable def C39 : Con := ⟨[tBk], [.bool], F39⟩
noncomputable def cx39 : Ctx := cx24.add 39 C39
def S43 : List Gh.Spec := [{ key := (0, 43, 2, 1), frs := [{ fn := 43, n := 19, regs := [(0, (.dat (.slice (.int .i64)))), (1, (.dat (.slice (.int .i64)))), (5, (.dat (.int .i64)))], round := none, defers := [] }], heap := [] }]
noncomputable def F43 : denL [(.slice (.int .i64)), (.slice (.int .i64))] → Option (denL [.bool]) := ghost cx39 S43 6000 43 [(.slice (.int .i64)), (.slice (.int .i64))] [.bool]
noncomputable def C43 : Con := ⟨[(.slice (.int .i64)), (.slice (.int .i64))], [.bool], F43⟩
noncomputable def cx43 : Ctx := cx39.add 43 C43
def S49 : List Gh.Spec := [{ key := (0, 49, 3, 1), frs := [{ fn := 49, n := 25, regs := [(0, (.dat (.slice (.int .i64)))), (1, (.dat (.int .u8))), (5, (.row 490023)), (6, (.dat (.int .i64)))], round := none, defers := [] }], heap := [(490023, .row (.int .i64) false)] }]
noncomputable def F49 : denL [(.slice (.int .i64)), (.int .u8)] → Option (denL [(.slice (.int .i64))]) := ghost cx43 S49 6000 49 [(.slice (.int .i64)), (.int .u8)] [(.slice (.int .i64))]
noncomputable def C49 : Con := ⟨[(.slice (.int .i64)), (.int .u8)], [(.slice (.int .i64))], F49⟩
noncomputable def cx49 : Ctx := cx43.add 49 C49
end Go.Proofs.Ytallblpnlefpeaa
