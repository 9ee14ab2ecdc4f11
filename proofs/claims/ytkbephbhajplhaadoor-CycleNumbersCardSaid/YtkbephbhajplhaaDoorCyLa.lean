/- What the ghost comes to: what functions return. Conditions: none (equations, each by computation). -/
import Derived.Test.YtkbephbhajplhaaDoorCyV
import Derived.Test.YtkbephbhajplhaaDoorCyAw
import Derived.Test.YtkbephbhajplhaaDoorCyN
import Derived.Test.YtkbephbhajplhaaDoorCyKK
namespace Go.Proofs.YtkbephbhajplhaaDoor
open Go Go.Gh Go.Proofs
def S3 : List Gh.Spec := []
theorem E3 (G : (n : Nat) → Kept → denK (specAt S3 n) → Option (denL [.bool])) (t0 : ((List (Int × Int × Unit)) × (List (Int × Int × (Int × Int × Unit) × Unit)) × (Int × Int × Unit) × Unit)) (t1 : (List Int)) : enter cx7 S3 [.bool] 6000 some G 3 [(.struct [(.slice (.struct [(.int .i64), (.int .i64)])), (.slice (.struct [(.int .i64), (.int .i64), (.struct [(.int .i64), (.int .i64)])])), (.struct [(.int .i64), (.int .i64)])]), (.arr 2 (.int .i64))] (t0, (t1, ())) =
    Option.bind (F17 (t0, ())) fun (y : Int × Int × Int × Unit) =>
  Option.bind (F18 (t0, ())) fun (y_1 : Int × Int × Int × Unit) =>
    bif Prod.fst y != Prod.fst y_1 then some (false, ())
    else
      bif Prod.fst (Prod.snd y) != Prod.fst (Prod.snd y_1) then some (false, ())
      else
        bif Prod.fst (Prod.snd (Prod.snd y)) != Prod.fst (Prod.snd (Prod.snd y_1)) then some (false, ())
        else
          Option.bind (F19 (t0, List.getD t1 0 0, ())) fun (y : (Int × Int × Unit) × Int × Unit) =>
            Option.bind (F20 (t0, List.getD t1 0 0, ())) fun (y_2 : (Int × Int × Unit) × Int × Unit) =>
              bif !eqD (Ty.struct [Ty.int IntKind.i64, Ty.int IntKind.i64]) (Prod.fst y) (Prod.fst y_2) then some (false, ())
              else
                bif Prod.fst (Prod.snd y) != Prod.fst (Prod.snd y_2) then some (false, ())
                else
                  Option.bind (F21 (t0, List.getD t1 0 0, List.getD t1 1 0, ())) fun (y : (Int × Int × Unit) × (Int × Int × Unit) × Int × Unit) =>
                    Option.bind (F22 (t0, List.getD t1 0 0, List.getD t1 1 0, ())) fun (y_3 : (Int × Int × Unit) × (Int × Int × Unit) × Int × Unit) =>
                      bif eqD (Ty.struct [Ty.int IntKind.i64, Ty.int IntKind.i64]) (Prod.fst y) (Prod.fst y_3) then
                        bif eqD (Ty.struct [Ty.int IntKind.i64, Ty.int IntKind.i64]) (Prod.fst (Prod.snd y)) (Prod.fst (Prod.snd y_3)) then bif Prod.fst (Prod.snd (Prod.snd y)) == Prod.fst (Prod.snd (Prod.snd y_3)) then Option.bind (F23 ()) fun (y : Bool × Unit) => some (Prod.fst y, ()) else some (false, ()) else some (false, ())
                      else some (false, ()) := by kernel_rfl
noncomputable def F3 : denL [(.struct [(.slice (.struct [(.int .i64), (.int .i64)])), (.slice (.struct [(.int .i64), (.int .i64), (.struct [(.int .i64), (.int .i64)])])), (.struct [(.int .i64), (.int .i64)])]), (.arr 2 (.int .i64))] → Option (denL [.bool]) := ghost cx7 S3 6000 3 [(.struct [(.slice (.struct [(.int .i64), (.int .i64)])), (.slice (.struct [(.int .i64), (.int .i64), (.struct [(.int .i64), (.int .i64)])])), (.struct [(.int .i64), (.int .i64)])]), (.arr 2 (.int .i64))] [.bool]
end Go.Proofs.YtkbephbhajplhaaDoor
/- What functions return: Numbers. Conditions: none. -/
namespace Go.Proofs.YtkbephbhajplhaaDoor
open Go Go.Gh Go.Proofs
theorem L3 (s : Se) (x : List Int) : F3 ((s, x, ()) : Se × List Int × Unit) = some (true, ()) := by
  refine ghost_eq (Ev.eq (fun _ => E3 _ _ _) ?_)
  simp only [L17, L18, L19, L20, L21, L22, L23, Option.bind_some, eqSp]
  refine Ev.all fun _ => ?_
  simp
end Go.Proofs.YtkbephbhajplhaaDoor
/- The contexts, one function after another, are the program's. Conditions: none. -/
namespace Go.Proofs.YtkbephbhajplhaaDoor
open Go Go.Gh Go.Proofs
end Go.Proofs.YtkbephbhajplhaaDoor
