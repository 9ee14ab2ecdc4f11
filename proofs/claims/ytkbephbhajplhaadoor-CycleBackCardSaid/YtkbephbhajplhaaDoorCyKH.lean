/- The contexts, one function after another, are the program's. Conditions: none. -/
import Derived.Test.YtkbephbhajplhaaDoorCyKK
import Derived.Test.YtkbephbhajplhaaDoorCyHa
namespace Go.Proofs.YtkbephbhajplhaaDoor
open Go Go.Gh Go.Proofs
theorem ok109 : CtxOK' cx109 := CtxOK'.add ok23 (f := 109) (c := C109) (show ConOK cx23 109 C109 from ghost_ok ok23 S109 6000 109 _ _) (fn_is (List.mem_range.2 (by decide)) (by kernel_rfl))
theorem ok38 : CtxOK' cx38 := CtxOK'.add ok109 (f := 38) (c := C38) (show ConOK cx109 38 C38 from ghost_ok ok109 S38 6000 38 _ _) (fn_is (List.mem_range.2 (by decide)) (by kernel_rfl))
theorem ok51 : CtxOK' cx51 := CtxOK'.add ok38 (f := 51) (c := C51) (show ConOK cx38 51 C51 from ghost_ok ok38 S51 6000 51 _ _) (fn_is (List.mem_range.2 (by decide)) (by kernel_rfl))
theorem ok39 : CtxOK' cx39 := CtxOK'.add ok51 (f := 39) (c := C39) (show ConOK cx51 39 C39 from ghost_ok ok51 S39 6000 39 _ _) (fn_is (List.mem_range.2 (by decide)) (by kernel_rfl))
theorem ok43 : CtxOK' cx43 := CtxOK'.add ok39 (f := 43) (c := C43) (show ConOK cx39 43 C43 from ghost_ok ok39 S43 6000 43 _ _) (fn_is (List.mem_range.2 (by decide)) (by kernel_rfl))
theorem ok45 : CtxOK' cx45 := CtxOK'.add ok43 (f := 45) (c := C45) (show ConOK cx43 45 C45 from ghost_ok ok43 S45 6000 45 _ _) (fn_is (List.mem_range.2 (by decide)) (by kernel_rfl))
theorem ok48 : CtxOK' cx48 := CtxOK'.add ok45 (f := 48) (c := C48) (show ConOK cx45 48 C48 from ghost_ok ok45 S48 6000 48 _ _) (fn_is (List.mem_range.2 (by decide)) (by kernel_rfl))
theorem ok53 : CtxOK' cx53 := CtxOK'.add ok48 (f := 53) (c := C53) (show ConOK cx48 53 C53 from ghost_ok ok48 S53 6000 53 _ _) (fn_is (List.mem_range.2 (by decide)) (by kernel_rfl))
theorem ok55 : CtxOK' cx55 := CtxOK'.add ok53 (f := 55) (c := C55) (show ConOK cx53 55 C55 from ghost_ok ok53 S55 6000 55 _ _) (fn_is (List.mem_range.2 (by decide)) (by kernel_rfl))
theorem ok56 : CtxOK' cx56 := CtxOK'.add ok55 (f := 56) (c := C56) (show ConOK cx55 56 C56 from ghost_ok ok55 S56 6000 56 _ _) (fn_is (List.mem_range.2 (by decide)) (by kernel_rfl))
theorem ok57 : CtxOK' cx57 := CtxOK'.add ok56 (f := 57) (c := C57) (show ConOK cx56 57 C57 from ghost_ok ok56 S57 6000 57 _ _) (fn_is (List.mem_range.2 (by decide)) (by kernel_rfl))
theorem ok58 : CtxOK' cx58 := CtxOK'.add ok57 (f := 58) (c := C58) (show ConOK cx57 58 C58 from ghost_ok ok57 S58 6000 58 _ _) (fn_is (List.mem_range.2 (by decide)) (by kernel_rfl))
end Go.Proofs.YtkbephbhajplhaaDoor
