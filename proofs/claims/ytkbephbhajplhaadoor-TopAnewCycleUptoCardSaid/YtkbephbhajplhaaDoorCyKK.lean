/- The contexts, one function after another, are the program's. Conditions: none. -/
import Derived.Test.YtkbephbhajplhaaDoorCyX
import Derived.Test.YtkbephbhajplhaaDoorCyE
import Derived.Test.YtkbephbhajplhaaDoorCyV
namespace Go.Proofs.YtkbephbhajplhaaDoor
open Go Go.Gh Go.Proofs
theorem memo_plain (i : Nat) (mm : Memo) (h : memoC i = some mm) : plainT mm.val = true := by
 unfold memoC at h
 cases hq : Nat.beq i 0 with
 | true =>
  rw [hq] at h
  cases h
  rfl
 | false => rw [hq] at h; cases h
theorem con_back {cx : Ctx} {f g : FuncId} {sb : Sub} {c : Con} (h : ConOK (cx.addS f sb) g c) : ConOK cx g c := h
theorem ok84 : CtxOK' cx84 := CtxOK'.add ok0 (f := 84) (c := C84) (show ConOK cx0 84 C84 from ghost_ok ok0 S84 6000 84 _ _) (fn_is (List.mem_range.2 (by decide)) (by kernel_rfl))
theorem ok81 : CtxOK' cx81 := CtxOK'.add ok84 (f := 81) (c := C81) (show ConOK cx84 81 C81 from ghost_ok ok84 S81 6000 81 _ _) (fn_is (List.mem_range.2 (by decide)) (by kernel_rfl))
theorem ok17 : CtxOK' cx17 := CtxOK'.add ok81 (f := 17) (c := C17) (show ConOK cx81 17 C17 from ghost_ok ok81 S17 6000 17 _ _) (fn_is (List.mem_range.2 (by decide)) (by kernel_rfl))
theorem ok96 : CtxOK' cx96 := CtxOK'.add ok17 (f := 96) (c := C96) (show ConOK cx17 96 C96 from ghost_ok ok17 S96 6000 96 _ _) (fn_is (List.mem_range.2 (by decide)) (by kernel_rfl))
theorem ok104 : CtxOK' cx104 := CtxOK'.addF (CtxOK'.add ok96 (f := 104) (c := C104) (show ConOK cx96 104 C104 from ghost_ok ok96 S104 6000 104 _ _) (fn_is (List.mem_range.2 (by decide)) (by kernel_rfl))) (f := 104) (c := C104) (show FConOK cx96 104 C104 from ghostF_ok ok96 memo_plain S104 6000 104 _ _ (by kernel_rfl) (by kernel_rfl)) (fn_is (List.mem_range.2 (by decide)) (by kernel_rfl))
theorem ok100 : CtxOK' cx100 := CtxOK'.add ok104 (f := 100) (c := C100) (show ConOK cx104 100 C100 from ghost_ok ok104 S100 6000 100 _ _) (fn_is (List.mem_range.2 (by decide)) (by kernel_rfl))
theorem ok101 : CtxOK' cx101 := CtxOK'.add ok100 (f := 101) (c := C101) (show ConOK cx100 101 C101 from ghost_ok ok100 S101 6000 101 _ _) (fn_is (List.mem_range.2 (by decide)) (by kernel_rfl))
theorem ok97 : CtxOK' cx97 := CtxOK'.add ok101 (f := 97) (c := C97) (show ConOK cx101 97 C97 from ghost_ok ok101 S97 6000 97 _ _) (fn_is (List.mem_range.2 (by decide)) (by kernel_rfl))
theorem ok93 : CtxOK' cx93 := CtxOK'.add ok97 (f := 93) (c := C93) (show ConOK cx97 93 C93 from ghost_ok ok97 S93 6000 93 _ _) (fn_is (List.mem_range.2 (by decide)) (by kernel_rfl))
theorem ok131 : CtxOK' cx131 := CtxOK'.add ok93 (f := 131) (c := C131) (show ConOK cx93 131 C131 from ghost_ok ok93 S131 6000 131 _ _) (fn_is (List.mem_range.2 (by decide)) (by kernel_rfl))
theorem ok127 : CtxOK' cx127 := CtxOK'.add ok131 (f := 127) (c := C127) (show ConOK cx131 127 C127 from ghost_ok ok131 S127 6000 127 _ _) (fn_is (List.mem_range.2 (by decide)) (by kernel_rfl))
theorem ok105 : CtxOK' cx105 := CtxOK'.add ok127 (f := 105) (c := C105) (show ConOK cx127 105 C105 from ghost_ok ok127 S105 6000 105 _ _) (fn_is (List.mem_range.2 (by decide)) (by kernel_rfl))
theorem ok106 : CtxOK' cx106 := CtxOK'.add ok105 (f := 106) (c := C106) (show ConOK cx105 106 C106 from ghost_ok ok105 S106 6000 106 _ _) (fn_is (List.mem_range.2 (by decide)) (by kernel_rfl))
theorem ok120 : CtxOK' cx120 := CtxOK'.addR ok106 (f := 120) (c := C120) (ghostR_ok ok106 memo_plain S120 6000 120 _ _ _ (by kernel_rfl)) (fn_is (List.mem_range.2 (by decide)) (by kernel_rfl))
theorem ok107s122 : CtxOK' cx107s122 := CtxOK'.addS ok120 (sub_ok ok120 (f := 122) (fn := Tryd.f122) (body := cAt Tryd.f122 []) (by kernel_rfl) (by kernel_rfl) S107s122 20 [.bool] O107s122 6000)
theorem ok107 : CtxOK' cx107 := CtxOK'.add ok120 (f := 107) (c := C107) (show ConOK cx120 107 C107 from ghost_ok ok107s122 S107 6000 107 _ _) (fn_is (List.mem_range.2 (by decide)) (by kernel_rfl))
theorem ok88 : CtxOK' cx88 := CtxOK'.add ok107 (f := 88) (c := C88) (show ConOK cx107 88 C88 from ghost_ok ok107 S88 6000 88 _ _) (fn_is (List.mem_range.2 (by decide)) (by kernel_rfl))
theorem ok89s122 : CtxOK' cx89s122 := CtxOK'.addS ok88 (sub_ok ok88 (f := 122) (fn := Tryd.f122) (body := cAt Tryd.f122 []) (by kernel_rfl) (by kernel_rfl) S89s122 20 [.bool] O89s122 6000)
theorem ok89 : CtxOK' cx89 := CtxOK'.add ok88 (f := 89) (c := C89) (show ConOK cx88 89 C89 from ghost_ok ok89s122 S89 6000 89 _ _) (fn_is (List.mem_range.2 (by decide)) (by kernel_rfl))
theorem ok19 : CtxOK' cx19 := CtxOK'.add ok89 (f := 19) (c := C19) (show ConOK cx89 19 C19 from ghost_ok ok89 S19 6000 19 _ _) (fn_is (List.mem_range.2 (by decide)) (by kernel_rfl))
theorem ok21 : CtxOK' cx21 := CtxOK'.add ok19 (f := 21) (c := C21) (show ConOK cx19 21 C21 from ghost_ok ok19 S21 6000 21 _ _) (fn_is (List.mem_range.2 (by decide)) (by kernel_rfl))
theorem ok33 : CtxOK' cx33 := CtxOK'.add ok21 (f := 33) (c := C33) (show ConOK cx21 33 C33 from ghost_ok ok21 S33 6000 33 _ _) (fn_is (List.mem_range.2 (by decide)) (by kernel_rfl))
theorem ok24s122 : CtxOK' cx24s122 := CtxOK'.addS ok33 (sub_ok ok33 (f := 122) (fn := Tryd.f122) (body := cAt Tryd.f122 []) (by kernel_rfl) (by kernel_rfl) S24s122 20 [.bool] O24s122 6000)
theorem ok24 : CtxOK' cx24 := CtxOK'.add ok33 (f := 24) (c := C24) (show ConOK cx33 24 C24 from ghost_ok ok24s122 S24 6000 24 _ _) (fn_is (List.mem_range.2 (by decide)) (by kernel_rfl))
theorem ok26s122 : CtxOK' cx26s122 := CtxOK'.addS ok24 (sub_ok ok24 (f := 122) (fn := Tryd.f122) (body := cAt Tryd.f122 []) (by kernel_rfl) (by kernel_rfl) S26s122 20 [.bool] O26s122 6000)
theorem ok26 : CtxOK' cx26 := CtxOK'.add ok24 (f := 26) (c := C26) (show ConOK cx24 26 C26 from ghost_ok ok26s122 S26 6000 26 _ _) (fn_is (List.mem_range.2 (by decide)) (by kernel_rfl))
theorem ok28s122 : CtxOK' cx28s122 := CtxOK'.addS ok26 (sub_ok ok26 (f := 122) (fn := Tryd.f122) (body := cAt Tryd.f122 []) (by kernel_rfl) (by kernel_rfl) S28s122 20 [.bool] O28s122 6000)
theorem ok28 : CtxOK' cx28 := CtxOK'.add ok26 (f := 28) (c := C28) (show ConOK cx26 28 C28 from ghost_ok ok28s122 S28 6000 28 _ _) (fn_is (List.mem_range.2 (by decide)) (by kernel_rfl))
theorem ok30s122v2 : CtxOK' cx30s122v2 := CtxOK'.addS ok28 (sub_ok ok28 (f := 122) (fn := Tryd.f122) (body := cAt Tryd.f122 []) (by kernel_rfl) (by kernel_rfl) S30s122v2 60 [.bool] O30s122v2 6000)
theorem ok30s122v1 : CtxOK' cx30s122v1 := CtxOK'.addS ok30s122v2 (sub_ok ok30s122v2 (f := 122) (fn := Tryd.f122) (body := cAt Tryd.f122 []) (by kernel_rfl) (by kernel_rfl) S30s122v1 40 [.bool] O30s122v1 6000)
theorem ok30s122v0 : CtxOK' cx30s122v0 := CtxOK'.addS ok30s122v1 (sub_ok ok30s122v1 (f := 122) (fn := Tryd.f122) (body := cAt Tryd.f122 []) (by kernel_rfl) (by kernel_rfl) S30s122v0 20 [.bool] O30s122v0 6000)
theorem ok30 : CtxOK' cx30 := CtxOK'.add ok28 (f := 30) (c := C30) (con_back (cx := cx28) (con_back (cx := cx30s122v2) (con_back (cx := cx30s122v1) (ghost_ok ok30s122v0 S30 6000 30 _ _)))) (fn_is (List.mem_range.2 (by decide)) (by kernel_rfl))
end Go.Proofs.YtkbephbhajplhaaDoor
/- The contexts, one function after another, are the program's. Conditions: none. -/
namespace Go.Proofs.YtkbephbhajplhaaDoor
open Go Go.Gh Go.Proofs
theorem ok85 : CtxOK' cx85 := CtxOK'.add ok30 (f := 85) (c := C85) (show ConOK cx30 85 C85 from ghost_ok ok30 S85 6000 85 _ _) (fn_is (List.mem_range.2 (by decide)) (by kernel_rfl))
theorem ok86 : CtxOK' cx86 := CtxOK'.add ok85 (f := 86) (c := C86) (show ConOK cx85 86 C86 from ghost_ok ok85 S86 6000 86 _ _) (fn_is (List.mem_range.2 (by decide)) (by kernel_rfl))
theorem ok87 : CtxOK' cx87 := CtxOK'.add ok86 (f := 87) (c := C87) (show ConOK cx86 87 C87 from ghost_ok ok86 S87 6000 87 _ _) (fn_is (List.mem_range.2 (by decide)) (by kernel_rfl))
theorem ok18 : CtxOK' cx18 := CtxOK'.add ok87 (f := 18) (c := C18) (show ConOK cx87 18 C18 from ghost_ok ok87 S18 6000 18 _ _) (fn_is (List.mem_range.2 (by decide)) (by kernel_rfl))
theorem ok112 : CtxOK' cx112 := CtxOK'.add ok18 (f := 112) (c := C112) (show ConOK cx18 112 C112 from ghost_ok ok18 S112 6000 112 _ _) (fn_is (List.mem_range.2 (by decide)) (by kernel_rfl))
theorem ok47 : CtxOK' cx47 := CtxOK'.add ok112 (f := 47) (c := C47) (show ConOK cx112 47 C47 from ghost_ok ok112 S47 6000 47 _ _) (fn_is (List.mem_range.2 (by decide)) (by kernel_rfl))
theorem ok40 : CtxOK' cx40 := CtxOK'.add ok47 (f := 40) (c := C40) (show ConOK cx47 40 C40 from ghost_ok ok47 S40 6000 40 _ _) (fn_is (List.mem_range.2 (by decide)) (by kernel_rfl))
theorem ok41 : CtxOK' cx41 := CtxOK'.add ok40 (f := 41) (c := C41) (show ConOK cx40 41 C41 from ghost_ok ok40 S41 6000 41 _ _) (fn_is (List.mem_range.2 (by decide)) (by kernel_rfl))
theorem ok42 : CtxOK' cx42 := CtxOK'.add ok41 (f := 42) (c := C42) (show ConOK cx41 42 C42 from ghost_ok ok41 S42 6000 42 _ _) (fn_is (List.mem_range.2 (by decide)) (by kernel_rfl))
theorem ok110 : CtxOK' cx110 := CtxOK'.add ok42 (f := 110) (c := C110) (show ConOK cx42 110 C110 from ghost_ok ok42 S110 6000 110 _ _) (fn_is (List.mem_range.2 (by decide)) (by kernel_rfl))
theorem ok52 : CtxOK' cx52 := CtxOK'.add ok110 (f := 52) (c := C52) (show ConOK cx110 52 C52 from ghost_ok ok110 S52 6000 52 _ _) (fn_is (List.mem_range.2 (by decide)) (by kernel_rfl))
theorem ok90 : CtxOK' cx90 := CtxOK'.add ok52 (f := 90) (c := C90) (show ConOK cx52 90 C90 from ghost_ok ok52 S90 6000 90 _ _) (fn_is (List.mem_range.2 (by decide)) (by kernel_rfl))
theorem ok91 : CtxOK' cx91 := CtxOK'.add ok90 (f := 91) (c := C91) (show ConOK cx90 91 C91 from ghost_ok ok90 S91 6000 91 _ _) (fn_is (List.mem_range.2 (by decide)) (by kernel_rfl))
theorem ok92 : CtxOK' cx92 := CtxOK'.add ok91 (f := 92) (c := C92) (show ConOK cx91 92 C92 from ghost_ok ok91 S92 6000 92 _ _) (fn_is (List.mem_range.2 (by decide)) (by kernel_rfl))
theorem ok20 : CtxOK' cx20 := CtxOK'.add ok92 (f := 20) (c := C20) (show ConOK cx92 20 C20 from ghost_ok ok92 S20 6000 20 _ _) (fn_is (List.mem_range.2 (by decide)) (by kernel_rfl))
theorem ok111 : CtxOK' cx111 := CtxOK'.add ok20 (f := 111) (c := C111) (show ConOK cx20 111 C111 from ghost_ok ok20 S111 6000 111 _ _) (fn_is (List.mem_range.2 (by decide)) (by kernel_rfl))
theorem ok46 : CtxOK' cx46 := CtxOK'.add ok111 (f := 46) (c := C46) (show ConOK cx111 46 C46 from ghost_ok ok111 S46 6000 46 _ _) (fn_is (List.mem_range.2 (by decide)) (by kernel_rfl))
theorem ok22 : CtxOK' cx22 := CtxOK'.add ok46 (f := 22) (c := C22) (show ConOK cx46 22 C22 from ghost_ok ok46 S22 6000 22 _ _) (fn_is (List.mem_range.2 (by decide)) (by kernel_rfl))
theorem ok44 : CtxOK' cx44 := CtxOK'.add ok22 (f := 44) (c := C44) (show ConOK cx22 44 C44 from ghost_ok ok22 S44 6000 44 _ _) (fn_is (List.mem_range.2 (by decide)) (by kernel_rfl))
theorem ok98 : CtxOK' cx98 := CtxOK'.add ok44 (f := 98) (c := C98) (show ConOK cx44 98 C98 from ghost_ok ok44 S98 6000 98 _ _) (fn_is (List.mem_range.2 (by decide)) (by kernel_rfl))
theorem ok25 : CtxOK' cx25 := CtxOK'.add ok98 (f := 25) (c := C25) (show ConOK cx98 25 C25 from ghost_ok ok98 S25 6000 25 _ _) (fn_is (List.mem_range.2 (by decide)) (by kernel_rfl))
theorem ok102 : CtxOK' cx102 := CtxOK'.add ok25 (f := 102) (c := C102) (show ConOK cx25 102 C102 from ghost_ok ok25 S102 6000 102 _ _) (fn_is (List.mem_range.2 (by decide)) (by kernel_rfl))
theorem ok27 : CtxOK' cx27 := CtxOK'.add ok102 (f := 27) (c := C27) (show ConOK cx102 27 C27 from ghost_ok ok102 S27 6000 27 _ _) (fn_is (List.mem_range.2 (by decide)) (by kernel_rfl))
theorem ok50 : CtxOK' cx50 := CtxOK'.add ok27 (f := 50) (c := C50) (show ConOK cx27 50 C50 from ghost_ok ok27 S50 6000 50 _ _) (fn_is (List.mem_range.2 (by decide)) (by kernel_rfl))
theorem ok29 : CtxOK' cx29 := CtxOK'.add ok50 (f := 29) (c := C29) (show ConOK cx50 29 C29 from ghost_ok ok50 S29 6000 29 _ _) (fn_is (List.mem_range.2 (by decide)) (by kernel_rfl))
theorem ok49 : CtxOK' cx49 := CtxOK'.add ok29 (f := 49) (c := C49) (show ConOK cx29 49 C49 from ghost_ok ok29 S49 6000 49 _ _) (fn_is (List.mem_range.2 (by decide)) (by kernel_rfl))
theorem ok31 : CtxOK' cx31 := CtxOK'.add ok49 (f := 31) (c := C31) (show ConOK cx49 31 C31 from ghost_ok ok49 S31 6000 31 _ _) (fn_is (List.mem_range.2 (by decide)) (by kernel_rfl))
theorem ok54 : CtxOK' cx54 := CtxOK'.add ok31 (f := 54) (c := C54) (show ConOK cx31 54 C54 from ghost_ok ok31 S54 6000 54 _ _) (fn_is (List.mem_range.2 (by decide)) (by kernel_rfl))
theorem ok108 : CtxOK' cx108 := CtxOK'.add ok54 (f := 108) (c := C108) (show ConOK cx54 108 C108 from ghost_ok ok54 S108 6000 108 _ _) (fn_is (List.mem_range.2 (by decide)) (by kernel_rfl))
theorem ok34 : CtxOK' cx34 := CtxOK'.add ok108 (f := 34) (c := C34) (show ConOK cx108 34 C34 from ghost_ok ok108 S34 6000 34 _ _) (fn_is (List.mem_range.2 (by decide)) (by kernel_rfl))
theorem ok32 : CtxOK' cx32 := CtxOK'.add ok34 (f := 32) (c := C32) (show ConOK cx34 32 C32 from ghost_ok ok34 S32 6000 32 _ _) (fn_is (List.mem_range.2 (by decide)) (by kernel_rfl))
theorem ok113 : CtxOK' cx113 := CtxOK'.add ok32 (f := 113) (c := C113) (show ConOK cx32 113 C113 from ghost_ok ok32 S113 6000 113 _ _) (fn_is (List.mem_range.2 (by decide)) (by kernel_rfl))
theorem okF : CtxOK' cxF := CtxOK'.setFull ok113 _
theorem ok36 : CtxOK' cx36 := CtxOK'.add okF (f := 36) (c := C36) (show ConOK cxF 36 C36 from ghost_ok okF S36 6000 36 _ _) (fn_is (List.mem_range.2 (by decide)) (by kernel_rfl))
theorem ok37 : CtxOK' cx37 := CtxOK'.add ok36 (f := 37) (c := C37) (show ConOK cx36 37 C37 from ghost_ok ok36 S37 6000 37 _ _) (fn_is (List.mem_range.2 (by decide)) (by kernel_rfl))
theorem ok94 : CtxOK' cx94 := CtxOK'.add ok37 (f := 94) (c := C94) (show ConOK cx37 94 C94 from ghost_ok ok37 S94 6000 94 _ _) (fn_is (List.mem_range.2 (by decide)) (by kernel_rfl))
theorem ok35 : CtxOK' cx35 := CtxOK'.add ok94 (f := 35) (c := C35) (show ConOK cx94 35 C35 from ghost_ok ok94 S35 6000 35 _ _) (fn_is (List.mem_range.2 (by decide)) (by kernel_rfl))
theorem ok23 : CtxOK' cx23 := CtxOK'.add ok35 (f := 23) (c := C23) (show ConOK cx35 23 C23 from ghost_ok ok35 S23 6000 23 _ _) (fn_is (List.mem_range.2 (by decide)) (by kernel_rfl))
end Go.Proofs.YtkbephbhajplhaaDoor
