/- The contexts of the outright statements are the program's. Conditions: none. -/
import Derived.Test.YtjigflnjgmgmnaaDoorClHb
import Derived.Test.YtjigflnjgmgmnaaDoorGhG
import Derived.Test.YtjigflnjgmgmnaaDoorClK
namespace Go.Proofs.YtjigflnjgmgmnaaDoor
open Go Go.Gh Go.Proofs
theorem ok51 : CtxOK' cx51 := CtxOK'.add ok22 (f := 51) (c := C51) (ghost_ok ok22 S51 6000 51 _ _) (fn_is (List.mem_range.2 (by decide)) (by kernel_rfl))
theorem ok112 : CtxOK' cx112 := CtxOK'.add ok51 (f := 112) (c := C112) (ghost_ok ok51 S112 6000 112 _ _) (fn_is (List.mem_range.2 (by decide)) (by kernel_rfl))
theorem ok45 : CtxOK' cx45 := CtxOK'.add ok112 (f := 45) (c := C45) (ghost_ok ok112 S45 6000 45 _ _) (fn_is (List.mem_range.2 (by decide)) (by kernel_rfl))
theorem ok46 : CtxOK' cx46 := CtxOK'.add ok45 (f := 46) (c := C46) (ghost_ok ok45 S46 6000 46 _ _) (fn_is (List.mem_range.2 (by decide)) (by kernel_rfl))
theorem ok115 : CtxOK' cx115 := CtxOK'.add ok46 (f := 115) (c := C115) (ghost_ok ok46 S115 6000 115 _ _) (fn_is (List.mem_range.2 (by decide)) (by kernel_rfl))
theorem ok114 : CtxOK' cx114 := CtxOK'.add ok115 (f := 114) (c := C114) (ghost_ok ok115 S114 6000 114 _ _) (fn_is (List.mem_range.2 (by decide)) (by kernel_rfl))
theorem ok53 : CtxOK' cx53 := CtxOK'.add ok114 (f := 53) (c := C53) (ghost_ok ok114 S53 6000 53 _ _) (fn_is (List.mem_range.2 (by decide)) (by kernel_rfl))
theorem ok54 : CtxOK' cx54 := CtxOK'.add ok53 (f := 54) (c := C54) (ghost_ok ok53 S54 6000 54 _ _) (fn_is (List.mem_range.2 (by decide)) (by kernel_rfl))
theorem ok57 : CtxOK' cx57 := CtxOK'.add ok54 (f := 57) (c := C57) (ghost_ok ok54 S57 6000 57 _ _) (fn_is (List.mem_range.2 (by decide)) (by kernel_rfl))
theorem ok58 : CtxOK' cx58 := CtxOK'.add ok57 (f := 58) (c := C58) (ghost_ok ok57 S58 6000 58 _ _) (fn_is (List.mem_range.2 (by decide)) (by kernel_rfl))
theorem ok44 : CtxOK' cx44 := CtxOK'.add ok58 (f := 44) (c := C44) (ghost_ok ok58 S44 6000 44 _ _) (fn_is (List.mem_range.2 (by decide)) (by kernel_rfl))
theorem ok42 : CtxOK' cx42 := CtxOK'.add ok44 (f := 42) (c := C42) (ghost_ok ok44 S42 6000 42 _ _) (fn_is (List.mem_range.2 (by decide)) (by kernel_rfl))
theorem ok39 : CtxOK' cx39 := CtxOK'.add ok42 (f := 39) (c := C39) (ghost_ok ok42 S39 6000 39 _ _) (fn_is (List.mem_range.2 (by decide)) (by kernel_rfl))
theorem ok47 : CtxOK' cx47 := CtxOK'.add ok39 (f := 47) (c := C47) (ghost_ok ok39 S47 6000 47 _ _) (fn_is (List.mem_range.2 (by decide)) (by kernel_rfl))
theorem okR : CtxOK' cxR := ok47.setRows _
theorem ok40 : CtxOK' cx40 := CtxOK'.add okR (f := 40) (c := C40) (ghost_ok okR S40 6000 40 _ _) (fn_is (List.mem_range.2 (by decide)) (by kernel_rfl))
theorem ok41 : CtxOK' cx41 := CtxOK'.add ok40 (f := 41) (c := C41) (ghost_ok ok40 S41 6000 41 _ _) (fn_is (List.mem_range.2 (by decide)) (by kernel_rfl))
theorem ok49 : CtxOK' cx49 := CtxOK'.add ok41 (f := 49) (c := C49) (ghost_ok ok41 S49 6000 49 _ _) (fn_is (List.mem_range.2 (by decide)) (by kernel_rfl))
theorem ok9 : CtxOK' cx9 := CtxOK'.add ok49 (f := 9) (c := C9) (ghost_ok ok49 S9 6000 9 _ _) (fn_is (List.mem_range.2 (by decide)) (by kernel_rfl))
end Go.Proofs.YtjigflnjgmgmnaaDoor
