/- What the ghost comes to: what functions return. Conditions: none (equations, each by computation). -/
import Derived.Test.YtkbephbhajplhaaDoorCyV
import Derived.Test.YtkbephbhajplhaaDoorCyAw
import Derived.Test.YtkbephbhajplhaaDoorCyY
import Derived.Test.YtkbephbhajplhaaDoorCyKK
namespace Go.Proofs.YtkbephbhajplhaaDoor
open Go Go.Gh Go.Proofs
def S3 : List Gh.Spec := []
theorem E3 (G : (n : Nat) → Kept → denK (specAt S3 n) → Option (denL [.bool])) (t0 : ((List (Int × Int × Unit)) × (List (Int × Int × (Int × Int × Unit) × Unit)) × (Int × Int × Unit) × Unit)) (t1 : (List Int)) : enter cx7 S3 [.bool] 6000 some G 3 [(.struct [(.slice (.struct [(.int .i64), (.int .i64)])), (.slice (.struct [(.int .i64), (.int .i64), (.struct [(.int .i64), (.int .i64)])])), (.struct [(.int .i64), (.int .i64)])]), (.arr 2 (.int .i64))] (t0, (t1, ())) =
    Option.bind (F17 (t0, ())) fun (y : Int × Int × Int × Unit) =>
  Option.bind (F18 (t0, ())) fun (y_1 : Int × Int × Int × Unit) =>
    bif Prod.fst y != Prod.fst y_1 then some (false, ())
    else
      bif Prod.fst (Prod.snd y) != Prod.fst (Prod.snd y_1) then some (false, ())
      else
        bif Prod.fst (Prod.snd (Prod.snd y)) != Prod.fst (Prod.snd (Prod.snd y_1)) then some (false, ())
        else
          Option.bind (F19 (t0, List.getD t1 0 0, ())) fun (y : (Int × Int × Unit) × Int × Unit) =>
            Option.bind (F20 (t0, List.getD t1 0 0, ())) fun (y_2 : (Int × Int × Unit) × Int × Unit) =>
              bif !eqD (Ty.struct [Ty.int IntKind.i64, Ty.int IntKind.i64]) (Prod.fst y) (Prod.fst y_2) then some (false, ())
              else
                bif Prod.fst (Prod.snd y) != Prod.fst (Prod.snd y_2) then some (false, ())
                else
                  Option.bind (F21 (t0, List.getD t1 0 0, List.getD t1 1 0, ())) fun (y : (Int × Int × Unit) × (Int × Int × Unit) × Int × Unit) =>
                    Option.bind (F22 (t0, List.getD t1 0 0, List.getD t1 1 0, ())) fun (y_3 : (Int × Int × Unit) × (Int × Int × Unit) × Int × Unit) =>
                      bif eqD (Ty.struct [Ty.int IntKind.i64, Ty.int IntKind.i64]) (Prod.fst y) (Prod.fst y_3) then
                        bif eqD (Ty.struct [Ty.int IntKind.i64, Ty.int IntKind.i64]) (Prod.fst (Prod.snd y)) (Prod.fst (Prod.snd y_3)) then bif Prod.fst (Prod.snd (Prod.snd y)) == Prod.fst (Prod.snd (Prod.snd y_3)) then Option.bind (F23 ()) fun (y : Bool × Unit) => some (Prod.fst y, ()) else some (false, ()) else some (false, ())
                      else some (false, ()) := by kernel_rfl
noncomputable def F3 : denL [(.struct [(.slice (.struct [(.int .i64), (.int .i64)])), (.slice (.struct [(.int .i64), (.int .i64), (.struct [(.int .i64), (.int .i64)])])), (.struct [(.int .i64), (.int .i64)])]), (.arr 2 (.int .i64))] → Option (denL [.bool]) := ghost cx7 S3 6000 3 [(.struct [(.slice (.struct [(.int .i64), (.int .i64)])), (.slice (.struct [(.int .i64), (.int .i64), (.struct [(.int .i64), (.int .i64)])])), (.struct [(.int .i64), (.int .i64)])]), (.arr 2 (.int .i64))] [.bool]
noncomputable def C3 : Con := ⟨[(.struct [(.slice (.struct [(.int .i64), (.int .i64)])), (.slice (.struct [(.int .i64), (.int .i64), (.struct [(.int .i64), (.int .i64)])])), (.struct [(.int .i64), (.int .i64)])]), (.arr 2 (.int .i64))], [.bool], F3⟩
noncomputable def cx3 : Ctx := cx7.add 3 C3
def S4 : List Gh.Spec := []
noncomputable def F4 : denL [(.struct [(.slice (.struct [(.int .i64), (.int .i64)])), (.slice (.struct [(.int .i64), (.int .i64), (.struct [(.int .i64), (.int .i64)])])), (.struct [(.int .i64), (.int .i64)])]), (.int .i64)] → Option (denL [.bool]) := ghost cx3 S4 6000 4 [(.struct [(.slice (.struct [(.int .i64), (.int .i64)])), (.slice (.struct [(.int .i64), (.int .i64), (.struct [(.int .i64), (.int .i64)])])), (.struct [(.int .i64), (.int .i64)])]), (.int .i64)] [.bool]
noncomputable def C4 : Con := ⟨[(.struct [(.slice (.struct [(.int .i64), (.int .i64)])), (.slice (.struct [(.int .i64), (.int .i64), (.struct [(.int .i64), (.int .i64)])])), (.struct [(.int .i64), (.int .i64)])]), (.int .i64)], [.bool], F4⟩
noncomputable def cx4 : Ctx := cx3.add 4 C4
def S5 : List Gh.Spec := []
noncomputable def F5 : denL [(.struct [(.slice (.struct [(.int .i64), (.int .i64)])), (.slice (.struct [(.int .i64), (.int .i64), (.struct [(.int .i64), (.int .i64)])])), (.struct [(.int .i64), (.int .i64)])]), (.struct [(.int .i64), (.int .i64)]), (.int .i64)] → Option (denL [.bool]) := ghost cx4 S5 6000 5 [(.struct [(.slice (.struct [(.int .i64), (.int .i64)])), (.slice (.struct [(.int .i64), (.int .i64), (.struct [(.int .i64), (.int .i64)])])), (.struct [(.int .i64), (.int .i64)])]), (.struct [(.int .i64), (.int .i64)]), (.int .i64)] [.bool]
noncomputable def C5 : Con := ⟨[(.struct [(.slice (.struct [(.int .i64), (.int .i64)])), (.slice (.struct [(.int .i64), (.int .i64), (.struct [(.int .i64), (.int .i64)])])), (.struct [(.int .i64), (.int .i64)])]), (.struct [(.int .i64), (.int .i64)]), (.int .i64)], [.bool], F5⟩
noncomputable def cx5 : Ctx := cx4.add 5 C5
def S6 : List Gh.Spec := []
theorem E6 (G : (n : Nat) → Kept → denK (specAt S6 n) → Option (denL [.bool])) (t0 : ((List (Int × Int × Unit)) × (List (Int × Int × (Int × Int × Unit) × Unit)) × (Int × Int × Unit) × Unit)) : enter cx5 S6 [.bool] 6000 some G 6 [(.struct [(.slice (.struct [(.int .i64), (.int .i64)])), (.slice (.struct [(.int .i64), (.int .i64), (.struct [(.int .i64), (.int .i64)])])), (.struct [(.int .i64), (.int .i64)])])] (t0, ()) =
    Option.bind (F33 (t0, ())) fun (y : List Int × Int × Unit) => Option.bind (F34 (t0, ())) fun (y_1 : List Int × Int × Unit) => Option.bind (F32 (Prod.fst y, Prod.fst y_1, ())) fun (y_2 : Bool × Unit) => bif Prod.fst y_2 then bif Prod.fst (Prod.snd y) == Prod.fst (Prod.snd y_1) then Option.bind (F23 ()) fun (y : Bool × Unit) => some (Prod.fst y, ()) else some (false, ()) else some (false, ()) := by kernel_rfl
noncomputable def F6 : denL [(.struct [(.slice (.struct [(.int .i64), (.int .i64)])), (.slice (.struct [(.int .i64), (.int .i64), (.struct [(.int .i64), (.int .i64)])])), (.struct [(.int .i64), (.int .i64)])])] → Option (denL [.bool]) := ghost cx5 S6 6000 6 [(.struct [(.slice (.struct [(.int .i64), (.int .i64)])), (.slice (.struct [(.int .i64), (.int .i64), (.struct [(.int .i64), (.int .i64)])])), (.struct [(.int .i64), (.int .i64)])])] [.bool]
end Go.Proofs.YtkbephbhajplhaaDoor
/- What functions return: Wrongs. Conditions: none. -/
namespace Go.Proofs.YtkbephbhajplhaaDoor
open Go Go.Gh Go.Proofs
theorem wrong_len (s : Se) : (wrongP s).1.length < 1000000 := by
  by_cases h0 : (chkP s).2.2.1 = 0
  · have h4 := (chk_zero h0).many
    rw [wrong_find h0]
    cases hf : (Few.subsTo (idxL s) (s.2.1.length + 1)).find? (okW s) with
    | none => simp
    | some r =>
      have := (Few.mem_subsTo.1 (List.mem_of_find?_eq_some hf)).2
      simp only
      omega
  · have hv : wrongP s = ([], (chkP s).2.2.1, ()) := if_neg h0
    rw [hv]; simp
theorem L6 (s : Se) : F6 ((s, ()) : Se × Unit) = some (true, ()) := by
  refine ghost_eq (Ev.eq (fun _ => E6 _ _) ?_)
  simp only [L33, L34, L23, Option.bind_some]
  rw [L32 _ _ (wrong_len s)]
  refine Ev.all fun _ => ?_
  simp
end Go.Proofs.YtkbephbhajplhaaDoor
/- The contexts, one function after another, are the program's. Conditions: none. -/
namespace Go.Proofs.YtkbephbhajplhaaDoor
open Go Go.Gh Go.Proofs
theorem ok3 : CtxOK' cx3 := CtxOK'.add ok7 (f := 3) (c := C3) (show ConOK cx7 3 C3 from ghost_ok ok7 S3 6000 3 _ _) (fn_is (List.mem_range.2 (by decide)) (by kernel_rfl))
theorem ok4 : CtxOK' cx4 := CtxOK'.add ok3 (f := 4) (c := C4) (show ConOK cx3 4 C4 from ghost_ok ok3 S4 6000 4 _ _) (fn_is (List.mem_range.2 (by decide)) (by kernel_rfl))
theorem ok5 : CtxOK' cx5 := CtxOK'.add ok4 (f := 5) (c := C5) (show ConOK cx4 5 C5 from ghost_ok ok4 S5 6000 5 _ _) (fn_is (List.mem_range.2 (by decide)) (by kernel_rfl))
end Go.Proofs.YtkbephbhajplhaaDoor
