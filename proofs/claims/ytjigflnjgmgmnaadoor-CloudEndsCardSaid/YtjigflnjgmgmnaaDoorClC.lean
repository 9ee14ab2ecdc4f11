/- What the ghost comes to: C. Conditions: none (equations, each by computation). -/
import Derived.Test.YtjigflnjgmgmnaaDoorClB
namespace Go.Proofs.YtjigflnjgmgmnaaDoor
open Go Go.Gh Go.Proofs
def S48 : List Gh.Spec := []
theorem E48 (G : (n : Nat) → Kept → denK (specAt S48 n) → Option (denL [.bool])) (t0 : Int) (t1 : Int) (t2 : Int) : enter cx35 S48 [.bool] 6000 some G 48 [(.int .i64), (.int .i64), (.int .i64)] (t0, (t1, (t2, ()))) =
  bif decide (t1 ≤ t0) then some (decide (t0 ≤ t2), ()) else some (false, ()) := by kernel_rfl
noncomputable def F48 : denL [(.int .i64), (.int .i64), (.int .i64)] → Option (denL [.bool]) := ghost cx35 S48 6000 48 [(.int .i64), (.int .i64), (.int .i64)] [.bool]
noncomputable def C48 : Con := ⟨[(.int .i64), (.int .i64), (.int .i64)], [.bool], F48⟩
noncomputable def cx48 : Ctx := cx35.add 48 C48
def S117 : List Gh.Spec := []
theorem E117 (G : (n : Nat) → Kept → denK (specAt S117 n) → Option (denL [(.struct [(.int .i64), (.int .i64)])])) (t0 : (Int × Int × Unit)) (t1 : Int) : enter cx48 S117 [(.struct [(.int .i64), (.int .i64)])] 6000 some G 117 [(.struct [(.int .i64), (.int .i64)]), (.int .i64)] (t0, (t1, ())) =
  some ((if Prod.fst t0 < t1 then Prod.fst t0 else t1, if Prod.fst (Prod.snd t0) > t1 then Prod.fst (Prod.snd t0) else t1, ()), ()) := by kernel_rfl
noncomputable def F117 : denL [(.struct [(.int .i64), (.int .i64)]), (.int .i64)] → Option (denL [(.struct [(.int .i64), (.int .i64)])]) := ghost cx48 S117 6000 117 [(.struct [(.int .i64), (.int .i64)]), (.int .i64)] [(.struct [(.int .i64), (.int .i64)])]
noncomputable def C117 : Con := ⟨[(.struct [(.int .i64), (.int .i64)]), (.int .i64)], [(.struct [(.int .i64), (.int .i64)])], F117⟩
noncomputable def cx117 : Ctx := cx48.add 117 C117
def S56 : List Gh.Spec := []
theorem E56 (G : (n : Nat) → Kept → denK (specAt S56 n) → Option (denL [.bool])) (t0 : (Int × Int × Unit)) (t1 : Int) : enter cx117 S56 [.bool] 6000 some G 56 [(.struct [(.int .i64), (.int .i64)]), (.int .i64)] (t0, (t1, ())) =
  bif Prod.fst t0 == 0 then some (true, ()) else bif Prod.fst t0 == 1 then some (decide (t1 ≥ Prod.fst (Prod.snd t0)), ()) else some (t1 == Prod.fst (Prod.snd t0), ()) := by kernel_rfl
noncomputable def F56 : denL [(.struct [(.int .i64), (.int .i64)]), (.int .i64)] → Option (denL [.bool]) := ghost cx117 S56 6000 56 [(.struct [(.int .i64), (.int .i64)]), (.int .i64)] [.bool]
noncomputable def C56 : Con := ⟨[(.struct [(.int .i64), (.int .i64)]), (.int .i64)], [.bool], F56⟩
noncomputable def cx56 : Ctx := cx117.add 56 C56
def S19 : List Gh.Spec := [{ key := (0, 19, 7, 1), frs := [{ fn := 19, n := 57, regs := [(1, (.ptr 190001 [])), (5, (.dat (.int .i64))), (6, (.dat (.int .i64)))], round := none, defers := [] }], heap := [(190001, .box (.dat (.struct [(.int .i64), (.slice (.struct [(.int .i64), (.int .i64)]))])) false)] }]
noncomputable def K19_0 : Kept := { todos := [[.inLoop (cAt Tryd.f19 [1, 1, 1, 1, 0, 1, 0, 0]), .inBlock 0, .code (cAt Tryd.f19 [1, 1, 1, 1, 1])]], cs := [noCodes] }
theorem E19 (G : (n : Nat) → Kept → denK (specAt S19 n) → Option (denL [(.int .i64), (.int .i64), (.int .i64)])) (t0 : (Int × (List (Int × Int × Unit)) × Unit)) : enter cx56 S19 [(.int .i64), (.int .i64), (.int .i64)] 6000 some G 19 [(.struct [(.int .i64), (.slice (.struct [(.int .i64), (.int .i64)]))])] (t0, ()) =
  Option.bind (F48 (Prod.fst t0, 0, 20, ())) fun (y : Bool × Unit) => bif !Prod.fst y then some (1, 0, 7, ()) else Option.bind (F48 ((↑(List.length (Prod.fst (Prod.snd t0))) : Int), 1, 12, ())) fun (y : Bool × Unit) => bif !Prod.fst y then some (2, 0, 3, ()) else G 0 K19_0 ((((), 0, 0, ()), ()), t0, ()) := by kernel_rfl
theorem Q19_0 (G : (n : Nat) → Kept → denK (specAt S19 n) → Option (denL [(.int .i64), (.int .i64), (.int .i64)])) (t5 : Int) (t6 : Int) (h0 : (Int × (List (Int × Int × Unit)) × Unit)) : seg cx56 S19 [(.int .i64), (.int .i64), (.int .i64)] 6000 some G 0 K19_0 ((((), (t5, (t6, ()))), ()), (h0, ())) =
  bif decide (t6 < (↑(List.length (Prod.fst (Prod.snd h0))) : Int)) then
 bif decide (0 ≤ t6) && decide (t6 < (↑(List.length (Prod.fst (Prod.snd h0))) : Int)) then
  Option.bind (F48 (Prod.fst (List.getD (Prod.fst (Prod.snd h0)) (Int.toNat t6) (0, 0, ())), 0, 3, ())) fun (y : Bool × Unit) =>
   bif !Prod.fst y then some (2, t6, 7, ())
   else
    Option.bind (F48 (Prod.fst (Prod.snd (List.getD (Prod.fst (Prod.snd h0)) (Int.toNat t6) (0, 0, ()))), 0, 100, ())) fun (y : Bool × Unit) =>
     bif !Prod.fst y then some (2, t6, 7, ())
     else
      bif Prod.fst (List.getD (Prod.fst (Prod.snd h0)) (Int.toNat t6) (0, 0, ())) == 0 then
       bif Prod.fst (Prod.snd (List.getD (Prod.fst (Prod.snd h0)) (Int.toNat t6) (0, 0, ()))) != 0 then some (2, t6, 2, ())
       else
        bif Prod.fst (List.getD (Prod.fst (Prod.snd h0)) (Int.toNat t6) (0, 0, ())) == 3 then bif decide (IntKind.wrap IntKind.i64 (t5 + 1) > 5) then some (2, t6, 3, ()) else G 0 K19_0 ((((), IntKind.wrap IntKind.i64 (t5 + 1), IntKind.wrap IntKind.i64 (t6 + 1), ()), ()), h0, ())
        else bif decide (t5 > 5) then some (2, t6, 3, ()) else G 0 K19_0 ((((), t5, IntKind.wrap IntKind.i64 (t6 + 1), ()), ()), h0, ())
      else
       bif Prod.fst (List.getD (Prod.fst (Prod.snd h0)) (Int.toNat t6) (0, 0, ())) == 3 then bif decide (IntKind.wrap IntKind.i64 (t5 + 1) > 5) then some (2, t6, 3, ()) else G 0 K19_0 ((((), IntKind.wrap IntKind.i64 (t5 + 1), IntKind.wrap IntKind.i64 (t6 + 1), ()), ()), h0, ())
       else bif decide (t5 > 5) then some (2, t6, 3, ()) else G 0 K19_0 ((((), t5, IntKind.wrap IntKind.i64 (t6 + 1), ()), ()), h0, ())
 else none
 else some (0, 0, 0, ()) := by kernel_rfl
noncomputable def F19 : denL [(.struct [(.int .i64), (.slice (.struct [(.int .i64), (.int .i64)]))])] → Option (denL [(.int .i64), (.int .i64), (.int .i64)]) := ghost cx56 S19 6000 19 [(.struct [(.int .i64), (.slice (.struct [(.int .i64), (.int .i64)]))])] [(.int .i64), (.int .i64), (.int .i64)]
noncomputable def C19 : Con := ⟨[(.struct [(.int .i64), (.slice (.struct [(.int .i64), (.int .i64)]))])], [(.int .i64), (.int .i64), (.int .i64)], F19⟩
noncomputable def cx19 : Ctx := cx56.add 19 C19
def S116 : List Gh.Spec := [{ key := (0, 116, 3, 1), frs := [{ fn := 116, n := 112, regs := [(1, (.ptr 1160001 [])), (3, (.row 1160110)), (4, (.dat (.int .i64)))], round := none, defers := [] }], heap := [(1160001, .box (.dat (.struct [(.int .i64), (.slice (.struct [(.int .i64), (.int .i64)]))])) false), (1160110, .row (.struct [(.arr 101 .bool), (.arr 101 (.struct [(.int .i64), (.int .i64)]))]) false)] }, { key := (0, 116, 7, 1), frs := [{ fn := 116, n := 112, regs := [(1, (.ptr 1160001 [])), (3, (.row 1160110)), (4, (.dat (.int .i64))), (5, (.ptr 1160005 [])), (6, (.dat (.int .i64)))], round := none, defers := [] }], heap := [(1160001, .box (.dat (.struct [(.int .i64), (.slice (.struct [(.int .i64), (.int .i64)]))])) false), (1160005, .box (.dat (.struct [(.arr 101 .bool), (.arr 101 (.struct [(.int .i64), (.int .i64)]))])) false), (1160110, .row (.struct [(.arr 101 .bool), (.arr 101 (.struct [(.int .i64), (.int .i64)]))]) false)] }, { key := (0, 116, 13, 1), frs := [{ fn := 116, n := 112, regs := [(1, (.ptr 1160001 [])), (3, (.row 1160110)), (4, (.dat (.int .i64))), (5, (.ptr 1160005 [])), (6, (.dat (.int .i64))), (7, (.dat (.int .i64)))], round := none, defers := [] }], heap := [(1160001, .box (.dat (.struct [(.int .i64), (.slice (.struct [(.int .i64), (.int .i64)]))])) false), (1160005, .box (.dat (.struct [(.arr 101 .bool), (.arr 101 (.struct [(.int .i64), (.int .i64)]))])) false), (1160110, .row (.struct [(.arr 101 .bool), (.arr 101 (.struct [(.int .i64), (.int .i64)]))]) false)] }]
noncomputable def K116_0 : Kept := { todos := [[.inLoop (cAt Tryd.f116 [1, 1, 0, 1, 0, 0]), .inBlock 0, .code (cAt Tryd.f116 [1, 1, 1])]], cs := [noCodes, noCodes] }
noncomputable def K116_1 : Kept := { todos := [[.inLoop (cAt Tryd.f116 [1, 1, 0, 1, 0, 0, 1, 0, 0, 1, 0, 1, 0, 0]), .inBlock 2, .code (cAt Tryd.f116 [1, 1, 0, 1, 0, 0, 1, 0, 0, 1, 1]), .inBlock 1, .code (cAt Tryd.f116 [1, 1, 0, 1, 0, 0, 1, 1]), .inLoop (cAt Tryd.f116 [1, 1, 0, 1, 0, 0]), .inBlock 0, .code (cAt Tryd.f116 [1, 1, 1])]], cs := [noCodes, noCodes, noCodes] }
noncomputable def K116_2 : Kept := { todos := [[.inLoop (cAt Tryd.f116 [1, 1, 0, 1, 0, 0, 1, 0, 0, 1, 0, 1, 0, 0, 1, 0, 0, 1, 1, 1, 0, 0]), .inBlock 4, .inBlock 3, .code (cAt Tryd.f116 [1, 1, 0, 1, 0, 0, 1, 0, 0, 1, 0, 1, 0, 0, 1, 1]), .inLoop (cAt Tryd.f116 [1, 1, 0, 1, 0, 0, 1, 0, 0, 1, 0, 1, 0, 0]), .inBlock 2, .code (cAt Tryd.f116 [1, 1, 0, 1, 0, 0, 1, 0, 0, 1, 1]), .inBlock 1, .code (cAt Tryd.f116 [1, 1, 0, 1, 0, 0, 1, 1]), .inLoop (cAt Tryd.f116 [1, 1, 0, 1, 0, 0]), .inBlock 0, .code (cAt Tryd.f116 [1, 1, 1])]], cs := [noCodes, noCodes, noCodes] }
theorem E116 (G : (n : Nat) → Kept → denK (specAt S116 n) → Option (denL [(.slice (.struct [(.arr 101 .bool), (.arr 101 (.struct [(.int .i64), (.int .i64)]))]))])) (t0 : (Int × (List (Int × Int × Unit)) × Unit)) : enter cx19 S116 [(.slice (.struct [(.arr 101 .bool), (.arr 101 (.struct [(.int .i64), (.int .i64)]))]))] 6000 some G 116 [(.struct [(.int .i64), (.slice (.struct [(.int .i64), (.int .i64)]))])] (t0, ()) =
  G 0 K116_0 ((((), (), 0, ()), ()), t0, [], ()) := by kernel_rfl
theorem Q116_0 (G : (n : Nat) → Kept → denK (specAt S116 n) → Option (denL [(.slice (.struct [(.arr 101 .bool), (.arr 101 (.struct [(.int .i64), (.int .i64)]))]))])) (t4 : Int) (h0 : (Int × (List (Int × Int × Unit)) × Unit)) (h1 : (List ((List Bool) × (List (Int × Int × Unit)) × Unit))) : seg cx19 S116 [(.slice (.struct [(.arr 101 .bool), (.arr 101 (.struct [(.int .i64), (.int .i64)]))]))] 6000 some G 0 K116_0 ((((), ((), (t4, ()))), ()), (h0, (h1, ()))) =
  bif decide (t4 < (↑(List.length (Prod.fst (Prod.snd h0))) : Int)) then G 1 K116_1 ((((), (), t4, (), 0, ()), ()), h0, (List.replicate 101 false, List.replicate 101 (0, 0, ()), ()), h1, ()) else some (h1, ()) := by kernel_rfl
theorem Q116_1 (G : (n : Nat) → Kept → denK (specAt S116 n) → Option (denL [(.slice (.struct [(.arr 101 .bool), (.arr 101 (.struct [(.int .i64), (.int .i64)]))]))])) (t4 : Int) (t6 : Int) (h0 : (Int × (List (Int × Int × Unit)) × Unit)) (h1 : ((List Bool) × (List (Int × Int × Unit)) × Unit)) (h2 : (List ((List Bool) × (List (Int × Int × Unit)) × Unit))) : seg cx19 S116 [(.slice (.struct [(.arr 101 .bool), (.arr 101 (.struct [(.int .i64), (.int .i64)]))]))] 6000 some G 1 K116_1 ((((), ((), (t4, ((), (t6, ()))))), ()), (h0, (h1, (h2, ())))) =
  bif decide (t6 ≤ 100) then
 bif decide (0 ≤ t4) && decide (t4 < (↑(List.length (Prod.fst (Prod.snd h0))) : Int)) then
  Option.bind (F56 (List.getD (Prod.fst (Prod.snd h0)) (Int.toNat t4) (0, 0, ()), t6, ())) fun (y : Bool × Unit) =>
   bif !Prod.fst y then G 1 K116_1 ((((), (), t4, (), IntKind.wrap IntKind.i64 (t6 + 1), ()), ()), h0, h1, h2, ())
   else
    bif t4 == 0 then
     bif decide (0 ≤ t6) && decide (t6 < 101) then
      bif decide (Int.toNat t6 < 101) then bif decide (0 ≤ t6) && decide (t6 < 101) then bif decide (Int.toNat t6 < 101) then G 1 K116_1 ((((), (), t4, (), IntKind.wrap IntKind.i64 (t6 + 1), ()), ()), h0, (List.set (Prod.fst h1) (Int.toNat t6) true, List.set (Prod.fst (Prod.snd h1)) (Int.toNat t6) (t6, t6, ()), ()), h2, ()) else none else none else none
     else none
    else G 2 K116_2 ((((), (), t4, (), t6, if IntKind.wrap IntKind.i64 (t6 - Prod.fst h0) > 0 then IntKind.wrap IntKind.i64 (t6 - Prod.fst h0) else 0, ()), ()), h0, h1, h2, ())
 else none
 else bif decide (List.length h2 + List.length (List.set (List.replicate 1 (List.replicate 101 false, List.replicate 101 (0, 0, ()), ())) 0 h1) ≤ 2147483648) then G 0 K116_0 ((((), (), IntKind.wrap IntKind.i64 (t4 + 1), ()), ()), h0, h2 ++ List.set (List.replicate 1 (List.replicate 101 false, List.replicate 101 (0, 0, ()), ())) 0 h1, ()) else none := by kernel_rfl
theorem Q116_2 (G : (n : Nat) → Kept → denK (specAt S116 n) → Option (denL [(.slice (.struct [(.arr 101 .bool), (.arr 101 (.struct [(.int .i64), (.int .i64)]))]))])) (t4 : Int) (t6 : Int) (t7 : Int) (h0 : (Int × (List (Int × Int × Unit)) × Unit)) (h1 : ((List Bool) × (List (Int × Int × Unit)) × Unit)) (h2 : (List ((List Bool) × (List (Int × Int × Unit)) × Unit))) : seg cx19 S116 [(.slice (.struct [(.arr 101 .bool), (.arr 101 (.struct [(.int .i64), (.int .i64)]))]))] 6000 some G 2 K116_2 ((((), ((), (t4, ((), (t6, (t7, ())))))), ()), (h0, (h1, (h2, ())))) =
  bif decide (t7 ≤ if IntKind.wrap IntKind.i64 (t6 + Prod.fst h0) < 100 then IntKind.wrap IntKind.i64 (t6 + Prod.fst h0) else 100) then
 bif decide (0 ≤ IntKind.wrap IntKind.i64 (t4 - 1)) && decide (IntKind.wrap IntKind.i64 (t4 - 1) < (↑(List.length h2) : Int)) then
  bif decide (0 ≤ t7) && decide (t7 < 101) then
   bif decide (Int.toNat (IntKind.wrap IntKind.i64 (t4 - 1)) < List.length h2) then
    bif decide (Int.toNat t7 < 101) then
     bif !List.getD (Prod.fst (List.getD h2 (Int.toNat (IntKind.wrap IntKind.i64 (t4 - 1))) (List.replicate 101 false, List.replicate 101 (0, 0, ()), ()))) (Int.toNat t7) false then G 2 K116_2 ((((), (), t4, (), t6, IntKind.wrap IntKind.i64 (t7 + 1), ()), ()), h0, h1, h2, ())
     else
      bif decide (0 ≤ IntKind.wrap IntKind.i64 (t4 - 1)) && decide (IntKind.wrap IntKind.i64 (t4 - 1) < (↑(List.length h2) : Int)) then
       bif decide (0 ≤ t7) && decide (t7 < 101) then
        bif decide (Int.toNat (IntKind.wrap IntKind.i64 (t4 - 1)) < List.length h2) then
         bif decide (Int.toNat t7 < 101) then
          bif decide (0 ≤ t6) && decide (t6 < 101) then
           bif decide (Int.toNat t6 < 101) then
            bif !List.getD (Prod.fst h1) (Int.toNat t6) false then
             bif decide (0 ≤ t6) && decide (t6 < 101) then
              bif decide (Int.toNat t6 < 101) then
               bif decide (0 ≤ t6) && decide (t6 < 101) then
                bif decide (Int.toNat t6 < 101) then
                 bif decide (0 ≤ t6) && decide (t6 < 101) then
                  bif decide (Int.toNat t6 < 101) then
                   Option.bind
                    (F117
                      (List.getD
                         (List.set (Prod.fst (Prod.snd h1)) (Int.toNat t6)
                           (IntKind.wrap IntKind.i64 (Prod.fst (List.getD (Prod.fst (Prod.snd (List.getD h2 (Int.toNat (IntKind.wrap IntKind.i64 (t4 - 1))) (List.replicate 101 false, List.replicate 101 (0, 0, ()), ())))) (Int.toNat t7) (0, 0, ())) + t6),
                             IntKind.wrap IntKind.i64 (Prod.fst (Prod.snd (List.getD (Prod.fst (Prod.snd (List.getD h2 (Int.toNat (IntKind.wrap IntKind.i64 (t4 - 1))) (List.replicate 101 false, List.replicate 101 (0, 0, ()), ())))) (Int.toNat t7) (0, 0, ()))) + t6), ()))
                         (Int.toNat t6) (0, 0, ()),
                        IntKind.wrap IntKind.i64 (Prod.fst (List.getD (Prod.fst (Prod.snd (List.getD h2 (Int.toNat (IntKind.wrap IntKind.i64 (t4 - 1))) (List.replicate 101 false, List.replicate 101 (0, 0, ()), ())))) (Int.toNat t7) (0, 0, ())) + t6), ()))
                    fun (y : (Int × Int × Unit) × Unit) =>
                    Option.bind (F117 (Prod.fst y, IntKind.wrap IntKind.i64 (Prod.fst (Prod.snd (List.getD (Prod.fst (Prod.snd (List.getD h2 (Int.toNat (IntKind.wrap IntKind.i64 (t4 - 1))) (List.replicate 101 false, List.replicate 101 (0, 0, ()), ())))) (Int.toNat t7) (0, 0, ()))) + t6), ())) fun (y : (Int × Int × Unit) × Unit) =>
                     bif decide (0 ≤ t6) && decide (t6 < 101) then
                      bif decide (Int.toNat t6 < 101) then
                       G 2 K116_2
                        ((((), (), t4, (), t6, IntKind.wrap IntKind.i64 (t7 + 1), ()), ()), h0,
                          (List.set (Prod.fst h1) (Int.toNat t6) true,
                            List.set
                             (List.set (Prod.fst (Prod.snd h1)) (Int.toNat t6)
                               (IntKind.wrap IntKind.i64 (Prod.fst (List.getD (Prod.fst (Prod.snd (List.getD h2 (Int.toNat (IntKind.wrap IntKind.i64 (t4 - 1))) (List.replicate 101 false, List.replicate 101 (0, 0, ()), ())))) (Int.toNat t7) (0, 0, ())) + t6),
                                 IntKind.wrap IntKind.i64 (Prod.fst (Prod.snd (List.getD (Prod.fst (Prod.snd (List.getD h2 (Int.toNat (IntKind.wrap IntKind.i64 (t4 - 1))) (List.replicate 101 false, List.replicate 101 (0, 0, ()), ())))) (Int.toNat t7) (0, 0, ()))) + t6), ()))
                             (Int.toNat t6) (Prod.fst y),
                            ()),
                          h2, ())
                      else none
                     else none
                  else none
                 else none
                else none
               else none
              else none
             else none
            else
             bif decide (0 ≤ t6) && decide (t6 < 101) then
              bif decide (Int.toNat t6 < 101) then
               Option.bind (F117 (List.getD (Prod.fst (Prod.snd h1)) (Int.toNat t6) (0, 0, ()), IntKind.wrap IntKind.i64 (Prod.fst (List.getD (Prod.fst (Prod.snd (List.getD h2 (Int.toNat (IntKind.wrap IntKind.i64 (t4 - 1))) (List.replicate 101 false, List.replicate 101 (0, 0, ()), ())))) (Int.toNat t7) (0, 0, ())) + t6), ())) fun (y : (Int × Int × Unit) × Unit) =>
                Option.bind (F117 (Prod.fst y, IntKind.wrap IntKind.i64 (Prod.fst (Prod.snd (List.getD (Prod.fst (Prod.snd (List.getD h2 (Int.toNat (IntKind.wrap IntKind.i64 (t4 - 1))) (List.replicate 101 false, List.replicate 101 (0, 0, ()), ())))) (Int.toNat t7) (0, 0, ()))) + t6), ())) fun (y : (Int × Int × Unit) × Unit) =>
                 bif decide (0 ≤ t6) && decide (t6 < 101) then bif decide (Int.toNat t6 < 101) then G 2 K116_2 ((((), (), t4, (), t6, IntKind.wrap IntKind.i64 (t7 + 1), ()), ()), h0, (Prod.fst h1, List.set (Prod.fst (Prod.snd h1)) (Int.toNat t6) (Prod.fst y), ()), h2, ()) else none else none
              else none
             else none
           else none
          else none
         else none
        else none
       else none
      else none
    else none
   else none
  else none
 else none
 else G 1 K116_1 ((((), (), t4, (), IntKind.wrap IntKind.i64 (t6 + 1), ()), ()), h0, h1, h2, ()) := by kernel_rfl
noncomputable def F116 : denL [(.struct [(.int .i64), (.slice (.struct [(.int .i64), (.int .i64)]))])] → Option (denL [(.slice (.struct [(.arr 101 .bool), (.arr 101 (.struct [(.int .i64), (.int .i64)]))]))]) := ghost cx19 S116 6000 116 [(.struct [(.int .i64), (.slice (.struct [(.int .i64), (.int .i64)]))])] [(.slice (.struct [(.arr 101 .bool), (.arr 101 (.struct [(.int .i64), (.int .i64)]))]))]
noncomputable def C116 : Con := ⟨[(.struct [(.int .i64), (.slice (.struct [(.int .i64), (.int .i64)]))])], [(.slice (.struct [(.arr 101 .bool), (.arr 101 (.struct [(.int .i64), (.int .i64)]))]))], F116⟩
noncomputable def cx116 : Ctx := cx19.add 116 C116
def S59 : List Gh.Spec := [{ key := (0, 59, 4, 1), frs := [{ fn := 59, n := 47, regs := [(2, (.ptr 590002 [])), (4, (.ptr 590004 [])), (5, (.ptr 590005 [])), (6, (.dat .bool)), (7, (.dat (.int .i64)))], round := none, defers := [] }], heap := [(590002, .box (.dat (.struct [(.int .i64), (.int .i64)])) false), (590004, .box (.dat (.struct [(.arr 101 .bool), (.arr 101 (.struct [(.int .i64), (.int .i64)]))])) false), (590005, .box (.dat (.struct [(.int .i64), (.int .i64)])) false)] }]
noncomputable def K59_0 : Kept := { todos := [[.inLoop (cAt Tryd.f59 [1, 1, 1, 0, 1, 0, 0]), .inBlock 0, .code (cAt Tryd.f59 [1, 1, 1, 1])]], cs := [noCodes, noCodes, noCodes] }
theorem E59 (G : (n : Nat) → Kept → denK (specAt S59 n) → Option (denL [(.struct [(.int .i64), (.int .i64)]), .bool])) (t0 : (Int × (List (Int × Int × Unit)) × Unit)) : enter cx116 S59 [(.struct [(.int .i64), (.int .i64)]), .bool] 6000 some G 59 [(.struct [(.int .i64), (.slice (.struct [(.int .i64), (.int .i64)]))])] (t0, ()) =
  Option.bind (F116 (t0, ())) fun (y : List (List Bool × List (Int × Int × Unit) × Unit) × Unit) =>
 bif decide (0 ≤ IntKind.wrap IntKind.i64 ((↑(List.length (Prod.fst (Prod.snd t0))) : Int) - 1)) && decide (IntKind.wrap IntKind.i64 ((↑(List.length (Prod.fst (Prod.snd t0))) : Int) - 1) < (↑(List.length (Prod.fst y)) : Int)) then
  G 0 K59_0 ((((), (), (), false, 0, ()), ()), (0, 0, ()), List.getD (Prod.fst y) (Int.toNat (IntKind.wrap IntKind.i64 ((↑(List.length (Prod.fst (Prod.snd t0))) : Int) - 1))) (List.replicate 101 false, List.replicate 101 (0, 0, ()), ()), (0, 0, ()), ())
 else none := by kernel_rfl
theorem Q59_0 (G : (n : Nat) → Kept → denK (specAt S59 n) → Option (denL [(.struct [(.int .i64), (.int .i64)]), .bool])) (t6 : Bool) (t7 : Int) (h0 : (Int × Int × Unit)) (h1 : ((List Bool) × (List (Int × Int × Unit)) × Unit)) (h2 : (Int × Int × Unit)) : seg cx116 S59 [(.struct [(.int .i64), (.int .i64)]), .bool] 6000 some G 0 K59_0 ((((), ((), ((), (t6, (t7, ()))))), ()), (h0, (h1, (h2, ())))) =
  bif decide (t7 ≤ 100) then
 bif decide (0 ≤ t7) && decide (t7 < 101) then
  bif decide (Int.toNat t7 < 101) then
   bif !List.getD (Prod.fst h1) (Int.toNat t7) false then G 0 K59_0 ((((), (), (), t6, IntKind.wrap IntKind.i64 (t7 + 1), ()), ()), h0, h1, h2, ())
   else
    bif !t6 then
     bif decide (0 ≤ t7) && decide (t7 < 101) then
      bif decide (Int.toNat t7 < 101) then
       bif decide (0 ≤ t7) && decide (t7 < 101) then
        bif decide (Int.toNat t7 < 101) then
         Option.bind (F117 (List.getD (Prod.fst (Prod.snd h1)) (Int.toNat t7) (0, 0, ()), Prod.fst (List.getD (Prod.fst (Prod.snd h1)) (Int.toNat t7) (0, 0, ())), ())) fun (y : (Int × Int × Unit) × Unit) =>
          bif decide (0 ≤ t7) && decide (t7 < 101) then bif decide (Int.toNat t7 < 101) then Option.bind (F117 (Prod.fst y, Prod.fst (Prod.snd (List.getD (Prod.fst (Prod.snd h1)) (Int.toNat t7) (0, 0, ()))), ())) fun (y : (Int × Int × Unit) × Unit) => G 0 K59_0 ((((), (), (), true, IntKind.wrap IntKind.i64 (t7 + 1), ()), ()), h0, h1, Prod.fst y, ()) else none else none
        else none
       else none
      else none
     else none
    else
     bif decide (0 ≤ t7) && decide (t7 < 101) then
      bif decide (Int.toNat t7 < 101) then
       Option.bind (F117 (h2, Prod.fst (List.getD (Prod.fst (Prod.snd h1)) (Int.toNat t7) (0, 0, ())), ())) fun (y : (Int × Int × Unit) × Unit) =>
        bif decide (0 ≤ t7) && decide (t7 < 101) then bif decide (Int.toNat t7 < 101) then Option.bind (F117 (Prod.fst y, Prod.fst (Prod.snd (List.getD (Prod.fst (Prod.snd h1)) (Int.toNat t7) (0, 0, ()))), ())) fun (y : (Int × Int × Unit) × Unit) => G 0 K59_0 ((((), (), (), t6, IntKind.wrap IntKind.i64 (t7 + 1), ()), ()), h0, h1, Prod.fst y, ()) else none else none
      else none
     else none
  else none
 else none
 else some (h2, t6, ()) := by kernel_rfl
noncomputable def F59 : denL [(.struct [(.int .i64), (.slice (.struct [(.int .i64), (.int .i64)]))])] → Option (denL [(.struct [(.int .i64), (.int .i64)]), .bool]) := ghost cx116 S59 6000 59 [(.struct [(.int .i64), (.slice (.struct [(.int .i64), (.int .i64)]))])] [(.struct [(.int .i64), (.int .i64)]), .bool]
noncomputable def C59 : Con := ⟨[(.struct [(.int .i64), (.slice (.struct [(.int .i64), (.int .i64)]))])], [(.struct [(.int .i64), (.int .i64)]), .bool], F59⟩
noncomputable def cx59 : Ctx := cx116.add 59 C59
def S94 : List Gh.Spec := []
theorem E94 (G : (n : Nat) → Kept → denK (specAt S94 n) → Option (denL [.bool])) (t0 : (Int × (List (Int × Int × Unit)) × Unit)) : enter cx59 S94 [.bool] 6000 some G 94 [(.struct [(.int .i64), (.slice (.struct [(.int .i64), (.int .i64)]))])] (t0, ()) =
  Option.bind (F59 (t0, ())) fun (y : (Int × Int × Unit) × Bool × Unit) => some (Prod.fst (Prod.snd y), ()) := by kernel_rfl
noncomputable def F94 : denL [(.struct [(.int .i64), (.slice (.struct [(.int .i64), (.int .i64)]))])] → Option (denL [.bool]) := ghost cx59 S94 6000 94 [(.struct [(.int .i64), (.slice (.struct [(.int .i64), (.int .i64)]))])] [.bool]
noncomputable def C94 : Con := ⟨[(.struct [(.int .i64), (.slice (.struct [(.int .i64), (.int .i64)]))])], [.bool], F94⟩
noncomputable def cx94 : Ctx := cx59.add 94 C94
def S89 : List Gh.Spec := []
noncomputable def F89 : denL [(.struct [(.int .i64), (.slice (.struct [(.int .i64), (.int .i64)]))]), (.int .i64)] → Option (denL [(.int .i64)]) := ghost cx94 S89 6000 89 [(.struct [(.int .i64), (.slice (.struct [(.int .i64), (.int .i64)]))]), (.int .i64)] [(.int .i64)]
noncomputable def C89 : Con := ⟨[(.struct [(.int .i64), (.slice (.struct [(.int .i64), (.int .i64)]))]), (.int .i64)], [(.int .i64)], F89⟩
noncomputable def cx89 : Ctx := cx94.add 89 C89
def S90 : List Gh.Spec := []
noncomputable def F90 : denL [(.struct [(.int .i64), (.slice (.struct [(.int .i64), (.int .i64)]))]), (.int .i64)] → Option (denL [(.int .i64)]) := ghost cx89 S90 6000 90 [(.struct [(.int .i64), (.slice (.struct [(.int .i64), (.int .i64)]))]), (.int .i64)] [(.int .i64)]
noncomputable def C90 : Con := ⟨[(.struct [(.int .i64), (.slice (.struct [(.int .i64), (.int .i64)]))]), (.int .i64)], [(.int .i64)], F90⟩
noncomputable def cx90 : Ctx := cx89.add 90 C90
def S62 : List Gh.Spec := [{ key := (0, 62, 3, 1), frs := [{ fn := 62, n := 24, regs := [(1, (.ptr 620001 [])), (2, (.ptr 620002 [])), (3, (.row 620020)), (4, (.dat (.int .i64)))], round := none, defers := [] }], heap := [(620001, .box (.dat (.struct [(.int .i64), (.slice (.struct [(.int .i64), (.int .i64)]))])) false), (620002, .box (.dat (.struct [(.int .i64), (.slice (.struct [(.int .i64), (.int .i64)]))])) false), (620020, .row (.struct [(.int .i64), (.int .i64)]) false)] }]
noncomputable def F62 : denL [(.struct [(.int .i64), (.slice (.struct [(.int .i64), (.int .i64)]))])] → Option (denL [(.struct [(.int .i64), (.slice (.struct [(.int .i64), (.int .i64)]))])]) := ghost cx90 S62 6000 62 [(.struct [(.int .i64), (.slice (.struct [(.int .i64), (.int .i64)]))])] [(.struct [(.int .i64), (.slice (.struct [(.int .i64), (.int .i64)]))])]
noncomputable def C62 : Con := ⟨[(.struct [(.int .i64), (.slice (.struct [(.int .i64), (.int .i64)]))])], [(.struct [(.int .i64), (.slice (.struct [(.int .i64), (.int .i64)]))])], F62⟩
noncomputable def cx62 : Ctx := cx90.add 62 C62
def S61 : List Gh.Spec := [{ key := (0, 61, 4, 1), frs := [{ fn := 61, n := 44, regs := [(5, (.ptr 610005 [])), (6, (.ptr 610006 [])), (7, (.row 610042)), (8, (.dat (.int .i64)))], round := none, defers := [] }], heap := [(610005, .box (.dat (.struct [(.arr 101 .bool), (.arr 101 (.struct [(.int .i64), (.int .i64)]))])) false), (610006, .box (.dat (.struct [(.arr 101 .bool), (.arr 101 (.struct [(.int .i64), (.int .i64)]))])) false), (610042, .row (.int .i64) false)] }]
noncomputable def F61 : denL [(.struct [(.int .i64), (.slice (.struct [(.int .i64), (.int .i64)]))]), (.int .i64)] → Option (denL [(.slice (.int .i64))]) := ghost cx62 S61 6000 61 [(.struct [(.int .i64), (.slice (.struct [(.int .i64), (.int .i64)]))]), (.int .i64)] [(.slice (.int .i64))]
noncomputable def C61 : Con := ⟨[(.struct [(.int .i64), (.slice (.struct [(.int .i64), (.int .i64)]))]), (.int .i64)], [(.slice (.int .i64))], F61⟩
noncomputable def cx61 : Ctx := cx62.add 61 C61
def S21 : List Gh.Spec := []
noncomputable def F21 : denL [(.struct [(.int .i64), (.slice (.struct [(.int .i64), (.int .i64)]))]), (.int .i64)] → Option (denL [(.struct [(.int .i64), (.int .i64)]), (.int .i64)]) := ghost cx61 S21 6000 21 [(.struct [(.int .i64), (.slice (.struct [(.int .i64), (.int .i64)]))]), (.int .i64)] [(.struct [(.int .i64), (.int .i64)]), (.int .i64)]
noncomputable def C21 : Con := ⟨[(.struct [(.int .i64), (.slice (.struct [(.int .i64), (.int .i64)]))]), (.int .i64)], [(.struct [(.int .i64), (.int .i64)]), (.int .i64)], F21⟩
noncomputable def cx21 : Ctx := cx61.add 21 C21
def S113 : List Gh.Spec := [{ key := (0, 113, 1, 1), frs := [{ fn := 113, n := 14, regs := [(0, (.dat (.int .i64))), (1, (.dat (.int .i64)))], round := none, defers := [] }], heap := [] }]
noncomputable def K113_0 : Kept := { todos := [[.inLoop (cAt Tryd.f113 [1, 0, 0, 0]), .inBlock 0, .code (cAt Tryd.f113 [1, 1])]], cs := [] }
theorem E113 (G : (n : Nat) → Kept → denK (specAt S113 n) → Option (denL [(.int .i64)])) (t0 : Int) (t1 : Int) : enter cx21 S113 [(.int .i64)] 6000 some G 113 [(.int .i64), (.int .i64)] (t0, (t1, ())) =
  G 0 K113_0 (((t0, t1, ()), ()), ()) := by kernel_rfl
theorem Q113_0 (G : (n : Nat) → Kept → denK (specAt S113 n) → Option (denL [(.int .i64)])) (t0 : Int) (t1 : Int) : seg cx21 S113 [(.int .i64)] 6000 some G 0 K113_0 (((t0, (t1, ())), ()), ()) =
  bif t1 != 0 then bif decide (t1 = 0) then none else G 0 K113_0 (((t1, Int.tmod t0 t1, ()), ()), ()) else some (t0, ()) := by kernel_rfl
noncomputable def F113 : denL [(.int .i64), (.int .i64)] → Option (denL [(.int .i64)]) := ghost cx21 S113 6000 113 [(.int .i64), (.int .i64)] [(.int .i64)]
noncomputable def C113 : Con := ⟨[(.int .i64), (.int .i64)], [(.int .i64)], F113⟩
noncomputable def cx113 : Ctx := cx21.add 113 C113
def S43 : List Gh.Spec := []
theorem E43 (G : (n : Nat) → Kept → denK (specAt S43 n) → Option (denL [(.struct [(.int .i64), (.int .i64)])])) (t0 : Int) (t1 : Int) : enter cx113 S43 [(.struct [(.int .i64), (.int .i64)])] 6000 some G 43 [(.int .i64), (.int .i64)] (t0, (t1, ())) =
  Option.bind (F113 (if IntKind.wrap IntKind.i64 (0 - t0) > t0 then IntKind.wrap IntKind.i64 (0 - t0) else t0, t1, ())) fun (y : Int × Unit) => bif decide (Prod.fst y = 0) then none else bif decide (Prod.fst y = 0) then none else some ((IntKind.wrap IntKind.i64 (Int.tdiv t0 (Prod.fst y)), IntKind.wrap IntKind.i64 (Int.tdiv t1 (Prod.fst y)), ()), ()) := by kernel_rfl
noncomputable def F43 : denL [(.int .i64), (.int .i64)] → Option (denL [(.struct [(.int .i64), (.int .i64)])]) := ghost cx113 S43 6000 43 [(.int .i64), (.int .i64)] [(.struct [(.int .i64), (.int .i64)])]
noncomputable def C43 : Con := ⟨[(.int .i64), (.int .i64)], [(.struct [(.int .i64), (.int .i64)])], F43⟩
noncomputable def cx43 : Ctx := cx113.add 43 C43
def S93 : List Gh.Spec := []
noncomputable def F93 : denL [(.struct [(.int .i64), (.int .i64)]), (.struct [(.int .i64), (.slice (.struct [(.int .i64), (.int .i64)]))])] → Option (denL [(.struct [(.int .i64), (.int .i64)]), (.struct [(.int .i64), (.int .i64)])]) := ghost cx43 S93 6000 93 [(.struct [(.int .i64), (.int .i64)]), (.struct [(.int .i64), (.slice (.struct [(.int .i64), (.int .i64)]))])] [(.struct [(.int .i64), (.int .i64)]), (.struct [(.int .i64), (.int .i64)])]
noncomputable def C93 : Con := ⟨[(.struct [(.int .i64), (.int .i64)]), (.struct [(.int .i64), (.slice (.struct [(.int .i64), (.int .i64)]))])], [(.struct [(.int .i64), (.int .i64)]), (.struct [(.int .i64), (.int .i64)])], F93⟩
noncomputable def cx93 : Ctx := cx43.add 93 C93
def S24 : List Gh.Spec := []
noncomputable def F24 : denL [(.struct [(.int .i64), (.slice (.struct [(.int .i64), (.int .i64)]))])] → Option (denL [(.struct [(.int .i64), (.int .i64)]), (.struct [(.int .i64), (.int .i64)]), (.int .i64)]) := ghost cx93 S24 6000 24 [(.struct [(.int .i64), (.slice (.struct [(.int .i64), (.int .i64)]))])] [(.struct [(.int .i64), (.int .i64)]), (.struct [(.int .i64), (.int .i64)]), (.int .i64)]
noncomputable def C24 : Con := ⟨[(.struct [(.int .i64), (.slice (.struct [(.int .i64), (.int .i64)]))])], [(.struct [(.int .i64), (.int .i64)]), (.struct [(.int .i64), (.int .i64)]), (.int .i64)], F24⟩
noncomputable def cx24 : Ctx := cx93.add 24 C24
def S55 : List Gh.Spec := []
noncomputable def F55 : denL [(.struct [(.int .i64), (.slice (.struct [(.int .i64), (.int .i64)]))]), (.int .i64), (.int .i64)] → Option (denL [(.struct [(.int .i64), (.slice (.struct [(.int .i64), (.int .i64)]))])]) := ghost cx24 S55 6000 55 [(.struct [(.int .i64), (.slice (.struct [(.int .i64), (.int .i64)]))]), (.int .i64), (.int .i64)] [(.struct [(.int .i64), (.slice (.struct [(.int .i64), (.int .i64)]))])]
noncomputable def C55 : Con := ⟨[(.struct [(.int .i64), (.slice (.struct [(.int .i64), (.int .i64)]))]), (.int .i64), (.int .i64)], [(.struct [(.int .i64), (.slice (.struct [(.int .i64), (.int .i64)]))])], F55⟩
noncomputable def cx55 : Ctx := cx24.add 55 C55
def S26 : List Gh.Spec := []
noncomputable def F26 : denL [(.struct [(.int .i64), (.slice (.struct [(.int .i64), (.int .i64)]))]), (.int .i64), (.int .i64)] → Option (denL [(.struct [(.int .i64), (.int .i64)]), (.struct [(.int .i64), (.int .i64)]), (.int .i64)]) := ghost cx55 S26 6000 26 [(.struct [(.int .i64), (.slice (.struct [(.int .i64), (.int .i64)]))]), (.int .i64), (.int .i64)] [(.struct [(.int .i64), (.int .i64)]), (.struct [(.int .i64), (.int .i64)]), (.int .i64)]
noncomputable def C26 : Con := ⟨[(.struct [(.int .i64), (.slice (.struct [(.int .i64), (.int .i64)]))]), (.int .i64), (.int .i64)], [(.struct [(.int .i64), (.int .i64)]), (.struct [(.int .i64), (.int .i64)]), (.int .i64)], F26⟩
noncomputable def cx26 : Ctx := cx55.add 26 C26
end Go.Proofs.YtjigflnjgmgmnaaDoor
