/- What the ghost comes to: what functions return. Conditions: none (equations, each by computation). -/
import Derived.Test.YtkbephbhajplhaaDoorCyV
import Derived.Test.YtkbephbhajplhaaDoorCyAw
import Derived.Test.YtkbephbhajplhaaDoorCyY
import Derived.Test.YtkbephbhajplhaaDoorCyKK
namespace Go.Proofs.YtkbephbhajplhaaDoor
open Go Go.Gh Go.Proofs
def S3 : List Gh.Spec := []
theorem E3 (G : (n : Nat) → Kept → denK (specAt S3 n) → Option (denL [.bool])) (t0 : ((List (Int × Int × Unit)) × (List (Int × Int × (Int × Int × Unit) × Unit)) × (Int × Int × Unit) × Unit)) (t1 : (List Int)) : enter cx7 S3 [.bool] 6000 some G 3 [(.struct [(.slice (.struct [(.int .i64), (.int .i64)])), (.slice (.struct [(.int .i64), (.int .i64), (.struct [(.int .i64), (.int .i64)])])), (.struct [(.int .i64), (.int .i64)])]), (.arr 2 (.int .i64))] (t0, (t1, ())) =
  Option.bind (F17 (t0, ())) fun (y : Int × Int × Int × Unit) =>
 Option.bind (F18 (t0, ())) fun (y_1 : Int × Int × Int × Unit) =>
  bif Prod.fst y != Prod.fst y_1 then some (false, ())
  else
   bif Prod.fst (Prod.snd y) != Prod.fst (Prod.snd y_1) then some (false, ())
   else
    bif Prod.fst (Prod.snd (Prod.snd y)) != Prod.fst (Prod.snd (Prod.snd y_1)) then some (false, ())
    else
     Option.bind (F19 (t0, List.getD t1 0 0, ())) fun (y : (Int × Int × Unit) × Int × Unit) =>
      Option.bind (F20 (t0, List.getD t1 0 0, ())) fun (y_2 : (Int × Int × Unit) × Int × Unit) =>
       bif !eqD (Ty.struct [Ty.int IntKind.i64, Ty.int IntKind.i64]) (Prod.fst y) (Prod.fst y_2) then some (false, ())
       else
        bif Prod.fst (Prod.snd y) != Prod.fst (Prod.snd y_2) then some (false, ())
        else
         Option.bind (F21 (t0, List.getD t1 0 0, List.getD t1 1 0, ())) fun (y : (Int × Int × Unit) × (Int × Int × Unit) × Int × Unit) =>
          Option.bind (F22 (t0, List.getD t1 0 0, List.getD t1 1 0, ())) fun (y_3 : (Int × Int × Unit) × (Int × Int × Unit) × Int × Unit) =>
           bif eqD (Ty.struct [Ty.int IntKind.i64, Ty.int IntKind.i64]) (Prod.fst y) (Prod.fst y_3) then
            bif eqD (Ty.struct [Ty.int IntKind.i64, Ty.int IntKind.i64]) (Prod.fst (Prod.snd y)) (Prod.fst (Prod.snd y_3)) then bif Prod.fst (Prod.snd (Prod.snd y)) == Prod.fst (Prod.snd (Prod.snd y_3)) then Option.bind (F23 ()) fun (y : Bool × Unit) => some (Prod.fst y, ()) else some (false, ()) else some (false, ())
           else some (false, ()) := by kernel_rfl
noncomputable def F3 : denL [(.struct [(.slice (.struct [(.int .i64), (.int .i64)])), (.slice (.struct [(.int .i64), (.int .i64), (.struct [(.int .i64), (.int .i64)])])), (.struct [(.int .i64), (.int .i64)])]), (.arr 2 (.int .i64))] → Option (denL [.bool]) := ghost cx7 S3 6000 3 [(.struct [(.slice (.struct [(.int .i64), (.int .i64)])), (.slice (.struct [(.int .i64), (.int .i64), (.struct [(.int .i64), (.int .i64)])])), (.struct [(.int .i64), (.int .i64)])]), (.arr 2 (.int .i64))] [.bool]
noncomputable def C3 : Con := ⟨[(.struct [(.slice (.struct [(.int .i64), (.int .i64)])), (.slice (.struct [(.int .i64), (.int .i64), (.struct [(.int .i64), (.int .i64)])])), (.struct [(.int .i64), (.int .i64)])]), (.arr 2 (.int .i64))], [.bool], F3⟩
noncomputable def cx3 : Ctx := cx7.add 3 C3
def S4 : List Gh.Spec := []
theorem E4 (G : (n : Nat) → Kept → denK (specAt S4 n) → Option (denL [.bool])) (t0 : ((List (Int × Int × Unit)) × (List (Int × Int × (Int × Int × Unit) × Unit)) × (Int × Int × Unit) × Unit)) (t1 : Int) : enter cx3 S4 [.bool] 6000 some G 4 [(.struct [(.slice (.struct [(.int .i64), (.int .i64)])), (.slice (.struct [(.int .i64), (.int .i64), (.struct [(.int .i64), (.int .i64)])])), (.struct [(.int .i64), (.int .i64)])]), (.int .i64)] (t0, (t1, ())) =
  Option.bind (F24 (t0, t1, ())) fun (y : Int × Int × Int × Unit) =>
 Option.bind (F25 (t0, t1, ())) fun (y_1 : Int × Int × Int × Unit) =>
  bif Prod.fst y != Prod.fst y_1 then some (false, ())
  else
   bif Prod.fst (Prod.snd y) != Prod.fst (Prod.snd y_1) then some (false, ())
   else
    bif Prod.fst (Prod.snd (Prod.snd y)) != Prod.fst (Prod.snd (Prod.snd y_1)) then some (false, ())
    else
     Option.bind (F26 (t0, ())) fun (y : (Int × Int × Unit) × Int × Unit) =>
      Option.bind (F27 (t0, ())) fun (y_2 : (Int × Int × Unit) × Int × Unit) =>
       bif !eqD (Ty.struct [Ty.int IntKind.i64, Ty.int IntKind.i64]) (Prod.fst y) (Prod.fst y_2) then some (false, ())
       else
        bif Prod.fst (Prod.snd y) != Prod.fst (Prod.snd y_2) then some (false, ())
        else
         Option.bind (F28 (t0, ())) fun (y : (Int × Int × Unit) × Int × Unit) =>
          Option.bind (F29 (t0, ())) fun (y_3 : (Int × Int × Unit) × Int × Unit) => bif eqD (Ty.struct [Ty.int IntKind.i64, Ty.int IntKind.i64]) (Prod.fst y) (Prod.fst y_3) then bif Prod.fst (Prod.snd y) == Prod.fst (Prod.snd y_3) then Option.bind (F23 ()) fun (y : Bool × Unit) => some (Prod.fst y, ()) else some (false, ()) else some (false, ()) := by kernel_rfl
noncomputable def F4 : denL [(.struct [(.slice (.struct [(.int .i64), (.int .i64)])), (.slice (.struct [(.int .i64), (.int .i64), (.struct [(.int .i64), (.int .i64)])])), (.struct [(.int .i64), (.int .i64)])]), (.int .i64)] → Option (denL [.bool]) := ghost cx3 S4 6000 4 [(.struct [(.slice (.struct [(.int .i64), (.int .i64)])), (.slice (.struct [(.int .i64), (.int .i64), (.struct [(.int .i64), (.int .i64)])])), (.struct [(.int .i64), (.int .i64)])]), (.int .i64)] [.bool]
end Go.Proofs.YtkbephbhajplhaaDoor
/- What functions return: Turns, Wrecks. Conditions: none. -/
namespace Go.Proofs.YtkbephbhajplhaaDoor
open Go Go.Gh Go.Proofs
theorem L4 (s : Se) (n : Int) : F4 ((s, n, ()) : Se × Int × Unit) = some (true, ()) := by
 refine ghost_eq (Ev.eq (fun _ => E4 _ _ _) ?_)
 simp only [L24, L25, L26, L27, L28, L29, L23, Option.bind_some, eqSp]
 refine Ev.all fun _ => ?_
 simp
end Go.Proofs.YtkbephbhajplhaaDoor
/- The contexts, one function after another, are the program's. Conditions: none. -/
namespace Go.Proofs.YtkbephbhajplhaaDoor
open Go Go.Gh Go.Proofs
theorem ok3 : CtxOK' cx3 := CtxOK'.add ok7 (f := 3) (c := C3) (show ConOK cx7 3 C3 from ghost_ok ok7 S3 6000 3 _ _) (fn_is (List.mem_range.2 (by decide)) (by kernel_rfl))
end Go.Proofs.YtkbephbhajplhaaDoor
