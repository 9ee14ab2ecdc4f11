/- The contexts, one function after another, are the program's. Conditions: none. -/
import Derived.Test.YtkhhbpocmmmnmaaTuX
import Derived.Test.YtkhhbpocmmmnmaaTuG
import Derived.Test.YtkhhbpocmmmnmaaGhH
import Derived.Test.YtkhhbpocmmmnmaaRows
import Derived.JoinedOf
import Derived.JoinedAt
namespace Go.Proofs.Ytkhhbpocmmmnmaa
open Go Go.Gh Go.Proofs
theorem memo_plain (i : Nat) (mm : Memo) (h : memoC i = some mm) : plainT mm.val = true := by
 unfold memoC at h
 cases hq : Nat.beq i 0 with
 | true =>
  rw [hq] at h
  cases h
  rfl
 | false => rw [hq] at h; cases h
theorem con_back {cx : Ctx} {f g : FuncId} {sb : Sub} {c : Con} (h : ConOK (cx.addS f sb) g c) : ConOK cx g c := h
theorem ok78 : CtxOK' cx78 := CtxOK'.add ok0 (f := 78) (c := C78) (ghost_ok ok0 S78 6000 78 _ _) (fn_is (List.mem_range.2 (by decide)) (by kernel_rfl))
theorem ok77 : CtxOK' cx77 := CtxOK'.add ok78 (f := 77) (c := C77) (ghost_ok ok78 S77 6000 77 _ _) (fn_is (List.mem_range.2 (by decide)) (by kernel_rfl))
theorem ok19 : CtxOK' cx19 := CtxOK'.add ok77 (f := 19) (c := C19) (ghost_ok ok77 S19 6000 19 _ _) (fn_is (List.mem_range.2 (by decide)) (by kernel_rfl))
theorem ok127 : CtxOK' cx127 := CtxOK'.add ok19 (f := 127) (c := C127) (ghost_ok ok19 S127 6000 127 _ _) (fn_is (List.mem_range.2 (by decide)) (by kernel_rfl))
theorem ok104 : CtxOK' cx104 := CtxOK'.add ok127 (f := 104) (c := C104) (ghost_ok ok127 S104 6000 104 _ _) (fn_is (List.mem_range.2 (by decide)) (by kernel_rfl))
theorem ok101 : CtxOK' cx101 := CtxOK'.add ok104 (f := 101) (c := C101) (ghost_ok ok104 S101 6000 101 _ _) (fn_is (List.mem_range.2 (by decide)) (by kernel_rfl))
theorem ok123 : CtxOK' cx123 := CtxOK'.add ok101 (f := 123) (c := C123) (ghost_ok ok101 S123 6000 123 _ _) (fn_is (List.mem_range.2 (by decide)) (by kernel_rfl))
theorem ok121 : CtxOK' cx121 := CtxOK'.add ok123 (f := 121) (c := C121) (ghost_ok ok123 S121 6000 121 _ _) (fn_is (List.mem_range.2 (by decide)) (by kernel_rfl))
theorem ok125 : CtxOK' cx125 := CtxOK'.add ok121 (f := 125) (c := C125) (ghost_ok ok121 S125 6000 125 _ _) (fn_is (List.mem_range.2 (by decide)) (by kernel_rfl))
theorem ok96 : CtxOK' cx96 := CtxOK'.add ok125 (f := 96) (c := C96) (ghost_ok ok125 S96 6000 96 _ _) (fn_is (List.mem_range.2 (by decide)) (by kernel_rfl))
theorem ok105 : CtxOK' cx105 := CtxOK'.add ok96 (f := 105) (c := C105) (ghost_ok ok96 S105 6000 105 _ _) (fn_is (List.mem_range.2 (by decide)) (by kernel_rfl))
theorem ok99 : CtxOK' cx99 := CtxOK'.add ok105 (f := 99) (c := C99) (ghost_ok ok105 S99 6000 99 _ _) (fn_is (List.mem_range.2 (by decide)) (by kernel_rfl))
theorem ok85 : CtxOK' cx85 := CtxOK'.add ok99 (f := 85) (c := C85) (ghost_ok ok99 S85 6000 85 _ _) (fn_is (List.mem_range.2 (by decide)) (by kernel_rfl))
theorem ok98 : CtxOK' cx98 := CtxOK'.addR ok85 (f := 98) (c := C98) (ghostR_ok ok85 memo_plain S98 6000 98 _ _ _ (by kernel_rfl)) (fn_is (List.mem_range.2 (by decide)) (by kernel_rfl))
theorem ok135 : CtxOK' cx135 := CtxOK'.add ok98 (f := 135) (c := C135) (ghost_ok ok98 S135 6000 135 _ _) (fn_is (List.mem_range.2 (by decide)) (by kernel_rfl))
theorem ok126 : CtxOK' cx126 := CtxOK'.add ok135 (f := 126) (c := C126) (ghost_ok ok135 S126 6000 126 _ _) (fn_is (List.mem_range.2 (by decide)) (by kernel_rfl))
theorem ok106s124 : CtxOK' cx106s124 := CtxOK'.addS ok126 (sub_ok ok126 (f := 124) (fn := Try.f124) (body := cAt Try.f124 []) (by kernel_rfl) (by kernel_rfl) S106s124 40 [.bool] O106s124 6000)
theorem ok106s134 : CtxOK' cx106s134 := CtxOK'.addS ok106s124 (sub_ok ok106s124 (f := 134) (fn := Try.f134) (body := cAt Try.f134 []) (by kernel_rfl) (by kernel_rfl) S106s134 20 [.bool] O106s134 6000)
theorem ok106 : CtxOK' cx106 := CtxOK'.add ok126 (f := 106) (c := C106) (con_back (cx := cx126) (con_back (cx := cx106s124) (ghost_ok ok106s134 S106 6000 106 _ _))) (fn_is (List.mem_range.2 (by decide)) (by kernel_rfl))
theorem ok84 : CtxOK' cx84 := CtxOK'.add ok106 (f := 84) (c := C84) (ghost_ok ok106 S84 6000 84 _ _) (fn_is (List.mem_range.2 (by decide)) (by kernel_rfl))
theorem ok21s124 : CtxOK' cx21s124 := CtxOK'.addS ok84 (sub_ok ok84 (f := 124) (fn := Try.f124) (body := cAt Try.f124 []) (by kernel_rfl) (by kernel_rfl) S21s124 40 [.bool] O21s124 6000)
theorem ok21s134 : CtxOK' cx21s134 := CtxOK'.addS ok21s124 (sub_ok ok21s124 (f := 134) (fn := Try.f134) (body := cAt Try.f134 []) (by kernel_rfl) (by kernel_rfl) S21s134 20 [.bool] O21s134 6000)
theorem ok21 : CtxOK' cx21 := CtxOK'.add ok84 (f := 21) (c := C21) (con_back (cx := cx84) (con_back (cx := cx21s124) (ghost_ok ok21s134 S21 6000 21 _ _))) (fn_is (List.mem_range.2 (by decide)) (by kernel_rfl))
theorem ok23s124 : CtxOK' cx23s124 := CtxOK'.addS ok21 (sub_ok ok21 (f := 124) (fn := Try.f124) (body := cAt Try.f124 []) (by kernel_rfl) (by kernel_rfl) S23s124 40 [.bool] O23s124 6000)
theorem ok23s134 : CtxOK' cx23s134 := CtxOK'.addS ok23s124 (sub_ok ok23s124 (f := 134) (fn := Try.f134) (body := cAt Try.f134 []) (by kernel_rfl) (by kernel_rfl) S23s134 20 [.bool] O23s134 6000)
theorem ok23 : CtxOK' cx23 := CtxOK'.add ok21 (f := 23) (c := C23) (con_back (cx := cx21) (con_back (cx := cx23s124) (ghost_ok ok23s134 S23 6000 23 _ _))) (fn_is (List.mem_range.2 (by decide)) (by kernel_rfl))
theorem ok26s124 : CtxOK' cx26s124 := CtxOK'.addS ok23 (sub_ok ok23 (f := 124) (fn := Try.f124) (body := cAt Try.f124 []) (by kernel_rfl) (by kernel_rfl) S26s124 40 [.bool] O26s124 6000)
theorem ok26s134 : CtxOK' cx26s134 := CtxOK'.addS ok26s124 (sub_ok ok26s124 (f := 134) (fn := Try.f134) (body := cAt Try.f134 []) (by kernel_rfl) (by kernel_rfl) S26s134 20 [.bool] O26s134 6000)
theorem ok26 : CtxOK' cx26 := CtxOK'.add ok23 (f := 26) (c := C26) (con_back (cx := cx23) (con_back (cx := cx26s124) (ghost_ok ok26s134 S26 6000 26 _ _))) (fn_is (List.mem_range.2 (by decide)) (by kernel_rfl))
theorem ok28s124 : CtxOK' cx28s124 := CtxOK'.addS ok26 (sub_ok ok26 (f := 124) (fn := Try.f124) (body := cAt Try.f124 []) (by kernel_rfl) (by kernel_rfl) S28s124 40 [.bool] O28s124 6000)
theorem ok28s134 : CtxOK' cx28s134 := CtxOK'.addS ok28s124 (sub_ok ok28s124 (f := 134) (fn := Try.f134) (body := cAt Try.f134 []) (by kernel_rfl) (by kernel_rfl) S28s134 20 [.bool] O28s134 6000)
theorem ok28 : CtxOK' cx28 := CtxOK'.add ok26 (f := 28) (c := C28) (con_back (cx := cx26) (con_back (cx := cx28s124) (ghost_ok ok28s134 S28 6000 28 _ _))) (fn_is (List.mem_range.2 (by decide)) (by kernel_rfl))
theorem ok31s124 : CtxOK' cx31s124 := CtxOK'.addS ok28 (sub_ok ok28 (f := 124) (fn := Try.f124) (body := cAt Try.f124 []) (by kernel_rfl) (by kernel_rfl) S31s124 40 [.bool] O31s124 6000)
theorem ok31s134 : CtxOK' cx31s134 := CtxOK'.addS ok31s124 (sub_ok ok31s124 (f := 134) (fn := Try.f134) (body := cAt Try.f134 []) (by kernel_rfl) (by kernel_rfl) S31s134 20 [.bool] O31s134 6000)
theorem ok31 : CtxOK' cx31 := CtxOK'.add ok28 (f := 31) (c := C31) (con_back (cx := cx28) (con_back (cx := cx31s124) (ghost_ok ok31s134 S31 6000 31 _ _))) (fn_is (List.mem_range.2 (by decide)) (by kernel_rfl))
theorem ok33s124 : CtxOK' cx33s124 := CtxOK'.addS ok31 (sub_ok ok31 (f := 124) (fn := Try.f124) (body := cAt Try.f124 []) (by kernel_rfl) (by kernel_rfl) S33s124 40 [.bool] O33s124 6000)
theorem ok33s134 : CtxOK' cx33s134 := CtxOK'.addS ok33s124 (sub_ok ok33s124 (f := 134) (fn := Try.f134) (body := cAt Try.f134 []) (by kernel_rfl) (by kernel_rfl) S33s134 20 [.bool] O33s134 6000)
theorem ok33 : CtxOK' cx33 := CtxOK'.add ok31 (f := 33) (c := C33) (con_back (cx := cx31) (con_back (cx := cx33s124) (ghost_ok ok33s134 S33 6000 33 _ _))) (fn_is (List.mem_range.2 (by decide)) (by kernel_rfl))
theorem ok35 : CtxOK' cx35 := CtxOK'.add ok33 (f := 35) (c := C35) (ghost_ok ok33 S35 6000 35 _ _) (fn_is (List.mem_range.2 (by decide)) (by kernel_rfl))
theorem ok55 : CtxOK' cx55 := CtxOK'.add ok35 (f := 55) (c := C55) (ghost_ok ok35 S55 6000 55 _ _) (fn_is (List.mem_range.2 (by decide)) (by kernel_rfl))
theorem ok83 : CtxOK' cx83 := CtxOK'.add ok55 (f := 83) (c := C83) (ghost_ok ok55 S83 6000 83 _ _) (fn_is (List.mem_range.2 (by decide)) (by kernel_rfl))
theorem ok20 : CtxOK' cx20 := CtxOK'.add ok83 (f := 20) (c := C20) (ghost_ok ok83 S20 6000 20 _ _) (fn_is (List.mem_range.2 (by decide)) (by kernel_rfl))
theorem ok43 : CtxOK' cx43 := CtxOK'.add ok20 (f := 43) (c := C43) (ghost_ok ok20 S43 6000 43 _ _) (fn_is (List.mem_range.2 (by decide)) (by kernel_rfl))
theorem ok44 : CtxOK' cx44 := CtxOK'.add ok43 (f := 44) (c := C44) (ghost_ok ok43 S44 6000 44 _ _) (fn_is (List.mem_range.2 (by decide)) (by kernel_rfl))
theorem ok109 : CtxOK' cx109 := CtxOK'.add ok44 (f := 109) (c := C109) (ghost_ok ok44 S109 6000 109 _ _) (fn_is (List.mem_range.2 (by decide)) (by kernel_rfl))
theorem ok108 : CtxOK' cx108 := CtxOK'.add ok109 (f := 108) (c := C108) (ghost_ok ok109 S108 6000 108 _ _) (fn_is (List.mem_range.2 (by decide)) (by kernel_rfl))
theorem ok129 : CtxOK' cx129 := CtxOK'.add ok108 (f := 129) (c := C129) (ghost_ok ok108 S129 6000 129 _ _) (fn_is (List.mem_range.2 (by decide)) (by kernel_rfl))
theorem ok128 : CtxOK' cx128 := CtxOK'.add ok129 (f := 128) (c := C128) (ghost_ok ok129 S128 6000 128 _ _) (fn_is (List.mem_range.2 (by decide)) (by kernel_rfl))
theorem ok112 : CtxOK' cx112 := CtxOK'.add ok128 (f := 112) (c := C112) (ghost_ok ok128 S112 6000 112 _ _) (fn_is (List.mem_range.2 (by decide)) (by kernel_rfl))
theorem ok113 : CtxOK' cx113 := CtxOK'.add ok112 (f := 113) (c := C113) (ghost_ok ok112 S113 6000 113 _ _) (fn_is (List.mem_range.2 (by decide)) (by kernel_rfl))
theorem ok110 : CtxOK' cx110 := CtxOK'.add ok113 (f := 110) (c := C110) (ghost_ok ok113 S110 6000 110 _ _) (fn_is (List.mem_range.2 (by decide)) (by kernel_rfl))
theorem ok111 : CtxOK' cx111 := CtxOK'.add ok110 (f := 111) (c := C111) (ghost_ok ok110 S111 6000 111 _ _) (fn_is (List.mem_range.2 (by decide)) (by kernel_rfl))
theorem ok48 : CtxOK' cx48 := CtxOK'.add ok111 (f := 48) (c := C48) (ghost_ok ok111 S48 6000 48 _ _) (fn_is (List.mem_range.2 (by decide)) (by kernel_rfl))
theorem ok88 : CtxOK' cx88 := CtxOK'.add ok48 (f := 88) (c := C88) (ghost_ok ok48 S88 6000 88 _ _) (fn_is (List.mem_range.2 (by decide)) (by kernel_rfl))
theorem ok89 : CtxOK' cx89 := CtxOK'.add ok88 (f := 89) (c := C89) (ghost_ok ok88 S89 6000 89 _ _) (fn_is (List.mem_range.2 (by decide)) (by kernel_rfl))
theorem ok90 : CtxOK' cx90 := CtxOK'.add ok89 (f := 90) (c := C90) (ghost_ok ok89 S90 6000 90 _ _) (fn_is (List.mem_range.2 (by decide)) (by kernel_rfl))
theorem ok93 : CtxOK' cx93 := CtxOK'.add ok90 (f := 93) (c := C93) (ghost_ok ok90 S93 6000 93 _ _) (fn_is (List.mem_range.2 (by decide)) (by kernel_rfl))
theorem ok102 : CtxOK' cx102 := CtxOK'.add ok93 (f := 102) (c := C102) (ghost_ok ok93 S102 6000 102 _ _) (fn_is (List.mem_range.2 (by decide)) (by kernel_rfl))
theorem ok46 : CtxOK' cx46 := CtxOK'.add ok102 (f := 46) (c := C46) (ghost_ok ok102 S46 6000 46 _ _) (fn_is (List.mem_range.2 (by decide)) (by kernel_rfl))
theorem ok114 : CtxOK' cx114 := CtxOK'.add ok46 (f := 114) (c := C114) (ghost_ok ok46 S114 6000 114 _ _) (fn_is (List.mem_range.2 (by decide)) (by kernel_rfl))
theorem ok49 : CtxOK' cx49 := CtxOK'.add ok114 (f := 49) (c := C49) (ghost_ok ok114 S49 6000 49 _ _) (fn_is (List.mem_range.2 (by decide)) (by kernel_rfl))
theorem ok107 : CtxOK' cx107 := CtxOK'.add ok49 (f := 107) (c := C107) (ghost_ok ok49 S107 6000 107 _ _) (fn_is (List.mem_range.2 (by decide)) (by kernel_rfl))
theorem ok30 : CtxOK' cx30 := CtxOK'.add ok107 (f := 30) (c := C30) (ghost_ok ok107 S30 6000 30 _ _) (fn_is (List.mem_range.2 (by decide)) (by kernel_rfl))
theorem ok22 : CtxOK' cx22 := CtxOK'.add ok30 (f := 22) (c := C22) (ghost_ok ok30 S22 6000 22 _ _) (fn_is (List.mem_range.2 (by decide)) (by kernel_rfl))
theorem ok24 : CtxOK' cx24 := CtxOK'.add ok22 (f := 24) (c := C24) (ghost_ok ok22 S24 6000 24 _ _) (fn_is (List.mem_range.2 (by decide)) (by kernel_rfl))
theorem ok27 : CtxOK' cx27 := CtxOK'.add ok24 (f := 27) (c := C27) (ghost_ok ok24 S27 6000 27 _ _) (fn_is (List.mem_range.2 (by decide)) (by kernel_rfl))
theorem ok29 : CtxOK' cx29 := CtxOK'.add ok27 (f := 29) (c := C29) (ghost_ok ok27 S29 6000 29 _ _) (fn_is (List.mem_range.2 (by decide)) (by kernel_rfl))
theorem ok32 : CtxOK' cx32 := CtxOK'.add ok29 (f := 32) (c := C32) (ghost_ok ok29 S32 6000 32 _ _) (fn_is (List.mem_range.2 (by decide)) (by kernel_rfl))
theorem ok34 : CtxOK' cx34 := CtxOK'.add ok32 (f := 34) (c := C34) (ghost_ok ok32 S34 6000 34 _ _) (fn_is (List.mem_range.2 (by decide)) (by kernel_rfl))
theorem ok36 : CtxOK' cx36 := CtxOK'.add ok34 (f := 36) (c := C36) (ghost_ok ok34 S36 6000 36 _ _) (fn_is (List.mem_range.2 (by decide)) (by kernel_rfl))
theorem ok39 : CtxOK' cx39 := CtxOK'.add ok36 (f := 39) (c := C39) (ghost_ok ok36 S39 6000 39 _ _) (fn_is (List.mem_range.2 (by decide)) (by kernel_rfl))
theorem ok38 : CtxOK' cx38 := CtxOK'.add ok39 (f := 38) (c := C38) (ghost_ok ok39 S38 6000 38 _ _) (fn_is (List.mem_range.2 (by decide)) (by kernel_rfl))
theorem ok94 : CtxOK' cx94 := CtxOK'.add ok38 (f := 94) (c := C94) (ghost_ok ok38 S94 6000 94 _ _) (fn_is (List.mem_range.2 (by decide)) (by kernel_rfl))
theorem ok37 : CtxOK' cx37 := CtxOK'.add ok94 (f := 37) (c := C37) (ghost_ok ok94 S37 6000 37 _ _) (fn_is (List.mem_range.2 (by decide)) (by kernel_rfl))
theorem ok25 : CtxOK' cx25 := CtxOK'.add ok37 (f := 25) (c := C25) (ghost_ok ok37 S25 6000 25 _ _) (fn_is (List.mem_range.2 (by decide)) (by kernel_rfl))
theorem ok3 : CtxOK' cx3 := CtxOK'.add ok25 (f := 3) (c := C3) (ghost_ok ok25 S3 6000 3 _ _) (fn_is (List.mem_range.2 (by decide)) (by kernel_rfl))
theorem ok4 : CtxOK' cx4 := CtxOK'.add ok3 (f := 4) (c := C4) (ghost_ok ok3 S4 6000 4 _ _) (fn_is (List.mem_range.2 (by decide)) (by kernel_rfl))
theorem ok5 : CtxOK' cx5 := CtxOK'.add ok4 (f := 5) (c := C5) (ghost_ok ok4 S5 6000 5 _ _) (fn_is (List.mem_range.2 (by decide)) (by kernel_rfl))
theorem ok6 : CtxOK' cx6 := CtxOK'.add ok5 (f := 6) (c := C6) (ghost_ok ok5 S6 6000 6 _ _) (fn_is (List.mem_range.2 (by decide)) (by kernel_rfl))
end Go.Proofs.Ytkhhbpocmmmnmaa
/- What the statements of package turning share. Conditions: as each lemma states. -/
namespace Go.Proofs.Ytkhhbpocmmmnmaa
open Go Go.Gh Go.ChangeShapes Go.WideShapes Go.ChangeAt Go.RowKit
theorem own1 : ownKnob Try.prog.godebug = none := by kernel_rfl
theorem laidOut1 : laidOutB Try.prog = true := by kernel_rfl
theorem glob_ok (W : World) {cx : Ctx} (hg : cx.glob = globs) : GlobOK cx (calm W) := by
 intro g
 rw [hg]
 refine CV.mk (cs := [.pointer (some ⟨g, 0, none⟩)]) ?_ (by simp [globs, ofCells, AV.isAgg])
 unfold globs CC
 exact ⟨_, rfl, rfl⟩
end Go.Proofs.Ytkhhbpocmmmnmaa
/- What the program's list of words says, read word by word. Conditions: none. -/
namespace Go.Proofs.Ytkhhbpocmmmnmaa
open Go Go.Gh Go.ChangeShapes Go.WideShapes Go.ChangeAt Go.RowKit
def ioL : List Char := [Char.ofNat 104, Char.ofNat 97, Char.ofNat 114, Char.ofNat 110, Char.ofNat 101, Char.ofNat 115, Char.ofNat 115, Char.ofNat 32, Char.ofNat 55, Char.ofNat 56, Char.ofNat 50, Char.ofNat 55, Char.ofNat 102, Char.ofNat 98, Char.ofNat 101, Char.ofNat 102, Char.ofNat 54, Char.ofNat 53, Char.ofNat 53, Char.ofNat 55, Char.ofNat 50, Char.ofNat 53, Char.ofNat 100, Char.ofNat 49, Char.ofNat 48, Char.ofNat 50, Char.ofNat 102, Char.ofNat 101, Char.ofNat 53, Char.ofNat 56, Char.ofNat 100, Char.ofNat 52, Char.ofNat 50, Char.ofNat 57, Char.ofNat 97, Char.ofNat 52, Char.ofNat 53, Char.ofNat 100, Char.ofNat 54, Char.ofNat 53, Char.ofNat 49, Char.ofNat 55, Char.ofNat 51, Char.ofNat 56, Char.ofNat 55, Char.ofNat 55, Char.ofNat 102, Char.ofNat 51, Char.ofNat 54, Char.ofNat 48, Char.ofNat 56, Char.ofNat 97, Char.ofNat 99, Char.ofNat 102, Char.ofNat 101, Char.ofNat 53, Char.ofNat 57, Char.ofNat 102, Char.ofNat 56, Char.ofNat 54, Char.ofNat 98, Char.ofNat 55, Char.ofNat 55, Char.ofNat 98, Char.ofNat 97, Char.ofNat 54, Char.ofNat 100, Char.ofNat 51, Char.ofNat 49, Char.ofNat 53, Char.ofNat 98, Char.ofNat 55, Char.ofNat 32, Char.ofNat 99, Char.ofNat 117, Char.ofNat 116, Char.ofNat 32, Char.ofNat 97, Char.ofNat 116, Char.ofNat 32, Char.ofNat 104, Char.ofNat 101, Char.ofNat 108, Char.ofNat 105, Char.ofNat 111, Char.ofNat 115, Char.ofNat 99, Char.ofNat 111, Char.ofNat 112, Char.ofNat 101, Char.ofNat 47, Char.ofNat 104, Char.ofNat 101, Char.ofNat 108, Char.ofNat 105, Char.ofNat 111, Char.ofNat 115, Char.ofNat 99, Char.ofNat 111, Char.ofNat 112, Char.ofNat 101, Char.ofNat 108, Char.ofNat 97, Char.ofNat 119, Char.ofNat 48, Char.ofNat 51, Char.ofNat 46, Char.ofNat 84, Char.ofNat 117, Char.ofNat 114, Char.ofNat 110, Char.ofNat 105, Char.ofNat 110, Char.ofNat 103, Char.ofNat 82, Char.ofNat 97, Char.ofNat 116, Char.ofNat 101, Char.ofNat 115, Char.ofNat 32, Char.ofNat 104, Char.ofNat 101, Char.ofNat 108, Char.ofNat 105, Char.ofNat 111, Char.ofNat 115, Char.ofNat 99, Char.ofNat 111, Char.ofNat 112, Char.ofNat 101, Char.ofNat 47, Char.ofNat 104, Char.ofNat 101, Char.ofNat 108, Char.ofNat 105, Char.ofNat 111, Char.ofNat 115, Char.ofNat 99, Char.ofNat 111, Char.ofNat 112, Char.ofNat 101, Char.ofNat 108, Char.ofNat 97, Char.ofNat 119, Char.ofNat 48, Char.ofNat 51, Char.ofNat 46, Char.ofNat 84, Char.ofNat 117, Char.ofNat 114, Char.ofNat 110, Char.ofNat 105, Char.ofNat 110, Char.ofNat 103, Char.ofNat 71, Char.ofNat 114, Char.ofNat 111, Char.ofNat 117, Char.ofNat 112, Char.ofNat 115, Char.ofNat 32, Char.ofNat 104, Char.ofNat 101, Char.ofNat 108, Char.ofNat 105, Char.ofNat 111, Char.ofNat 115, Char.ofNat 99, Char.ofNat 111, Char.ofNat 112, Char.ofNat 101, Char.ofNat 47, Char.ofNat 104, Char.ofNat 101, Char.ofNat 108, Char.ofNat 105, Char.ofNat 111, Char.ofNat 115, Char.ofNat 99, Char.ofNat 111, Char.ofNat 112, Char.ofNat 101, Char.ofNat 108, Char.ofNat 97, Char.ofNat 119, Char.ofNat 48, Char.ofNat 51, Char.ofNat 46, Char.ofNat 84, Char.ofNat 117, Char.ofNat 114, Char.ofNat 110, Char.ofNat 105, Char.ofNat 110, Char.ofNat 103, Char.ofNat 80, Char.ofNat 108, Char.ofNat 97, Char.ofNat 99, Char.ofNat 101, Char.ofNat 115, Char.ofNat 32, Char.ofNat 104, Char.ofNat 101, Char.ofNat 108, Char.ofNat 105, Char.ofNat 111, Char.ofNat 115, Char.ofNat 99, Char.ofNat 111, Char.ofNat 112, Char.ofNat 101, Char.ofNat 47, Char.ofNat 104, Char.ofNat 101, Char.ofNat 108, Char.ofNat 105, Char.ofNat 111, Char.ofNat 115, Char.ofNat 99, Char.ofNat 111, Char.ofNat 112, Char.ofNat 101, Char.ofNat 108, Char.ofNat 97, Char.ofNat 119, Char.ofNat 48, Char.ofNat 51, Char.ofNat 46, Char.ofNat 84, Char.ofNat 117, Char.ofNat 114, Char.ofNat 110, Char.ofNat 105, Char.ofNat 110, Char.ofNat 103, Char.ofNat 87, Char.ofNat 114, Char.ofNat 111, Char.ofNat 110, Char.ofNat 103, Char.ofNat 115, Char.ofNat 32, Char.ofNat 104, Char.ofNat 101, Char.ofNat 108, Char.ofNat 105, Char.ofNat 111, Char.ofNat 115, Char.ofNat 99, Char.ofNat 111, Char.ofNat 112, Char.ofNat 101, Char.ofNat 47, Char.ofNat 104, Char.ofNat 101, Char.ofNat 108, Char.ofNat 105, Char.ofNat 111, Char.ofNat 115, Char.ofNat 99, Char.ofNat 111, Char.ofNat 112, Char.ofNat 101, Char.ofNat 108, Char.ofNat 97, Char.ofNat 119, Char.ofNat 48, Char.ofNat 51, Char.ofNat 46, Char.ofNat 84, Char.ofNat 117, Char.ofNat 114, Char.ofNat 110, Char.ofNat 105, Char.ofNat 110, Char.ofNat 103, Char.ofNat 75, Char.ofNat 110, Char.ofNat 111, Char.ofNat 119, Char.ofNat 110, Char.ofNat 32, Char.ofNat 104, Char.ofNat 101, Char.ofNat 108, Char.ofNat 105, Char.ofNat 111, Char.ofNat 115, Char.ofNat 99, Char.ofNat 111, Char.ofNat 112, Char.ofNat 101, Char.ofNat 47, Char.ofNat 104, Char.ofNat 101, Char.ofNat 108, Char.ofNat 105, Char.ofNat 111, Char.ofNat 115, Char.ofNat 99, Char.ofNat 111, Char.ofNat 112, Char.ofNat 101, Char.ofNat 108, Char.ofNat 97, Char.ofNat 119, Char.ofNat 48, Char.ofNat 51, Char.ofNat 46, Char.ofNat 84, Char.ofNat 117, Char.ofNat 114, Char.ofNat 110, Char.ofNat 105, Char.ofNat 110, Char.ofNat 103, Char.ofNat 84, Char.ofNat 114, Char.ofNat 117, Char.ofNat 101, Char.ofNat 32, Char.ofNat 104, Char.ofNat 101, Char.ofNat 108, Char.ofNat 105, Char.ofNat 111, Char.ofNat 115, Char.ofNat 99, Char.ofNat 111, Char.ofNat 112, Char.ofNat 101, Char.ofNat 47, Char.ofNat 104, Char.ofNat 101, Char.ofNat 108, Char.ofNat 105, Char.ofNat 111, Char.ofNat 115, Char.ofNat 99, Char.ofNat 111, Char.ofNat 112, Char.ofNat 101, Char.ofNat 108, Char.ofNat 97, Char.ofNat 119, Char.ofNat 48, Char.ofNat 51, Char.ofNat 46, Char.ofNat 84, Char.ofNat 117, Char.ofNat 114, Char.ofNat 110, Char.ofNat 105, Char.ofNat 110, Char.ofNat 103, Char.ofNat 70, Char.ofNat 101, Char.ofNat 119, Char.ofNat 101, Char.ofNat 115, Char.ofNat 116, Char.ofNat 32, Char.ofNat 104, Char.ofNat 101, Char.ofNat 108, Char.ofNat 105, Char.ofNat 111, Char.ofNat 115, Char.ofNat 99, Char.ofNat 111, Char.ofNat 112, Char.ofNat 101, Char.ofNat 47, Char.ofNat 104, Char.ofNat 101, Char.ofNat 108, Char.ofNat 105, Char.ofNat 111, Char.ofNat 115, Char.ofNat 99, Char.ofNat 111, Char.ofNat 112, Char.ofNat 101, Char.ofNat 108, Char.ofNat 97, Char.ofNat 119, Char.ofNat 48, Char.ofNat 51, Char.ofNat 46, Char.ofNat 84, Char.ofNat 117, Char.ofNat 114, Char.ofNat 110, Char.ofNat 105, Char.ofNat 110, Char.ofNat 103, Char.ofNat 72, Char.ofNat 97, Char.ofNat 110, Char.ofNat 100, Char.ofNat 101, Char.ofNat 100, Char.ofNat 32, Char.ofNat 104, Char.ofNat 101, Char.ofNat 108, Char.ofNat 105, Char.ofNat 111, Char.ofNat 115, Char.ofNat 99, Char.ofNat 111, Char.ofNat 112, Char.ofNat 101, Char.ofNat 47, Char.ofNat 104, Char.ofNat 101, Char.ofNat 108, Char.ofNat 105, Char.ofNat 111, Char.ofNat 115, Char.ofNat 99, Char.ofNat 111, Char.ofNat 112, Char.ofNat 101, Char.ofNat 108, Char.ofNat 97, Char.ofNat 119, Char.ofNat 48, Char.ofNat 51, Char.ofNat 46, Char.ofNat 84, Char.ofNat 117, Char.ofNat 114, Char.ofNat 110, Char.ofNat 105, Char.ofNat 110, Char.ofNat 103, Char.ofNat 87, Char.ofNat 114, Char.ofNat 111, Char.ofNat 110, Char.ofNat 103, Char.ofNat 32, Char.ofNat 104, Char.ofNat 101, Char.ofNat 108, Char.ofNat 105, Char.ofNat 111, Char.ofNat 115, Char.ofNat 99, Char.ofNat 111, Char.ofNat 112, Char.ofNat 101, Char.ofNat 47, Char.ofNat 104, Char.ofNat 101, Char.ofNat 108, Char.ofNat 105, Char.ofNat 111, Char.ofNat 115, Char.ofNat 99, Char.ofNat 111, Char.ofNat 112, Char.ofNat 101, Char.ofNat 108, Char.ofNat 97, Char.ofNat 119, Char.ofNat 48, Char.ofNat 51, Char.ofNat 46, Char.ofNat 84, Char.ofNat 117, Char.ofNat 114, Char.ofNat 110, Char.ofNat 105, Char.ofNat 110, Char.ofNat 103, Char.ofNat 77, Char.ofNat 111, Char.ofNat 114, Char.ofNat 101, Char.ofNat 32, Char.ofNat 104, Char.ofNat 101, Char.ofNat 108, Char.ofNat 105, Char.ofNat 111, Char.ofNat 115, Char.ofNat 99, Char.ofNat 111, Char.ofNat 112, Char.ofNat 101, Char.ofNat 47, Char.ofNat 104, Char.ofNat 101, Char.ofNat 108, Char.ofNat 105, Char.ofNat 111, Char.ofNat 115, Char.ofNat 99, Char.ofNat 111, Char.ofNat 112, Char.ofNat 101, Char.ofNat 108, Char.ofNat 97, Char.ofNat 119, Char.ofNat 48, Char.ofNat 51, Char.ofNat 46, Char.ofNat 84, Char.ofNat 117, Char.ofNat 114, Char.ofNat 110, Char.ofNat 105, Char.ofNat 110, Char.ofNat 103, Char.ofNat 70, Char.ofNat 97, Char.ofNat 115, Char.ofNat 116, Char.ofNat 101, Char.ofNat 114, Char.ofNat 32, Char.ofNat 104, Char.ofNat 101, Char.ofNat 108, Char.ofNat 105, Char.ofNat 111, Char.ofNat 115, Char.ofNat 99, Char.ofNat 111, Char.ofNat 112, Char.ofNat 101, Char.ofNat 47, Char.ofNat 104, Char.ofNat 101, Char.ofNat 108, Char.ofNat 105, Char.ofNat 111, Char.ofNat 115, Char.ofNat 99, Char.ofNat 111, Char.ofNat 112, Char.ofNat 101, Char.ofNat 108, Char.ofNat 97, Char.ofNat 119, Char.ofNat 48, Char.ofNat 51, Char.ofNat 46, Char.ofNat 84, Char.ofNat 117, Char.ofNat 114, Char.ofNat 110, Char.ofNat 105, Char.ofNat 110, Char.ofNat 103, Char.ofNat 76, Char.ofNat 97, Char.ofNat 116, Char.ofNat 101, Char.ofNat 114, Char.ofNat 32, Char.ofNat 104, Char.ofNat 101, Char.ofNat 108, Char.ofNat 105, Char.ofNat 111, Char.ofNat 115, Char.ofNat 99, Char.ofNat 111, Char.ofNat 112, Char.ofNat 101, Char.ofNat 47, Char.ofNat 104, Char.ofNat 101, Char.ofNat 108, Char.ofNat 105, Char.ofNat 111, Char.ofNat 115, Char.ofNat 99, Char.ofNat 111, Char.ofNat 112, Char.ofNat 101, Char.ofNat 108, Char.ofNat 97, Char.ofNat 119, Char.ofNat 48, Char.ofNat 51, Char.ofNat 46, Char.ofNat 84, Char.ofNat 117, Char.ofNat 114, Char.ofNat 110, Char.ofNat 105, Char.ofNat 110, Char.ofNat 103, Char.ofNat 76, Char.ofNat 111, Char.ofNat 111, Char.ofNat 115, Char.ofNat 101, Char.ofNat 32, Char.ofNat 104, Char.ofNat 101, Char.ofNat 108, Char.ofNat 105, Char.ofNat 111, Char.ofNat 115, Char.ofNat 99, Char.ofNat 111, Char.ofNat 112, Char.ofNat 101, Char.ofNat 47, Char.ofNat 104, Char.ofNat 101, Char.ofNat 108, Char.ofNat 105, Char.ofNat 111, Char.ofNat 115, Char.ofNat 99, Char.ofNat 111, Char.ofNat 112, Char.ofNat 101, Char.ofNat 108, Char.ofNat 97, Char.ofNat 119, Char.ofNat 48, Char.ofNat 51, Char.ofNat 46, Char.ofNat 84, Char.ofNat 117, Char.ofNat 114, Char.ofNat 110, Char.ofNat 105, Char.ofNat 110, Char.ofNat 103, Char.ofNat 65, Char.ofNat 110, Char.ofNat 111, Char.ofNat 116, Char.ofNat 104, Char.ofNat 101, Char.ofNat 114, Char.ofNat 32, Char.ofNat 104, Char.ofNat 101, Char.ofNat 108, Char.ofNat 105, Char.ofNat 111, Char.ofNat 115, Char.ofNat 99, Char.ofNat 111, Char.ofNat 112, Char.ofNat 101, Char.ofNat 47, Char.ofNat 104, Char.ofNat 101, Char.ofNat 108, Char.ofNat 105, Char.ofNat 111, Char.ofNat 115, Char.ofNat 99, Char.ofNat 111, Char.ofNat 112, Char.ofNat 101, Char.ofNat 108, Char.ofNat 97, Char.ofNat 119, Char.ofNat 48, Char.ofNat 51, Char.ofNat 46, Char.ofNat 84, Char.ofNat 117, Char.ofNat 114, Char.ofNat 110, Char.ofNat 105, Char.ofNat 110, Char.ofNat 103, Char.ofNat 79, Char.ofNat 119, Char.ofNat 110, Char.ofNat 32, Char.ofNat 104, Char.ofNat 101, Char.ofNat 108, Char.ofNat 105, Char.ofNat 111, Char.ofNat 115, Char.ofNat 99, Char.ofNat 111, Char.ofNat 112, Char.ofNat 101, Char.ofNat 47, Char.ofNat 104, Char.ofNat 101, Char.ofNat 108, Char.ofNat 105, Char.ofNat 111, Char.ofNat 115, Char.ofNat 99, Char.ofNat 111, Char.ofNat 112, Char.ofNat 101, Char.ofNat 116, Char.ofNat 111, Char.ofNat 112, Char.ofNat 46, Char.ofNat 84, Char.ofNat 111, Char.ofNat 112, Char.ofNat 65, Char.ofNat 110, Char.ofNat 101, Char.ofNat 119, Char.ofNat 84, Char.ofNat 117, Char.ofNat 114, Char.ofNat 110, Char.ofNat 105, Char.ofNat 110, Char.ofNat 103]
theorem io_lit : Try.pinned.checked.prog.initOrder = "harness 7827fbef655725d102fe58d429a45d65173877f3608acfe59f86b77ba6d315b7 cut at helioscope/helioscopelaw03.TurningRates helioscope/helioscopelaw03.TurningGroups helioscope/helioscopelaw03.TurningPlaces helioscope/helioscopelaw03.TurningWrongs helioscope/helioscopelaw03.TurningKnown helioscope/helioscopelaw03.TurningTrue helioscope/helioscopelaw03.TurningFewest helioscope/helioscopelaw03.TurningHanded helioscope/helioscopelaw03.TurningWrong helioscope/helioscopelaw03.TurningMore helioscope/helioscopelaw03.TurningFaster helioscope/helioscopelaw03.TurningLater helioscope/helioscopelaw03.TurningLoose helioscope/helioscopelaw03.TurningAnother helioscope/helioscopelaw03.TurningOwn helioscope/helioscopetop.TopAnewTurning" := by kernel_rfl
theorem lit_of : "harness 7827fbef655725d102fe58d429a45d65173877f3608acfe59f86b77ba6d315b7 cut at helioscope/helioscopelaw03.TurningRates helioscope/helioscopelaw03.TurningGroups helioscope/helioscopelaw03.TurningPlaces helioscope/helioscopelaw03.TurningWrongs helioscope/helioscopelaw03.TurningKnown helioscope/helioscopelaw03.TurningTrue helioscope/helioscopelaw03.TurningFewest helioscope/helioscopelaw03.TurningHanded helioscope/helioscopelaw03.TurningWrong helioscope/helioscopelaw03.TurningMore helioscope/helioscopelaw03.TurningFaster helioscope/helioscopelaw03.TurningLater helioscope/helioscopelaw03.TurningLoose helioscope/helioscopelaw03.TurningAnother helioscope/helioscopelaw03.TurningOwn helioscope/helioscopetop.TopAnewTurning" = String.ofList ioL := by kernel_rfl
theorem to_list {t : String} {l : List Char} (h : t = String.ofList l) : t.toList = l := by rw [h, String.toList_ofList]
theorem io_list : Try.pinned.checked.prog.initOrder.toList = ioL := to_list (io_lit.trans lit_of)
theorem ws_app : ∀ (a r : List Char), a.all (fun c => c != Char.ofNat 32) = true → wordsSigns (a ++ Char.ofNat 32 :: r) = a :: wordsSigns r
 | [], r, _ => by
  rw [List.nil_append]
  exact wordsSigns.eq_2 r
 | c :: a, r, h => by
  rw [List.all_cons, Bool.and_eq_true] at h
  have hc : c ≠ Char.ofNat 32 := by simpa using h.1
  have ih := ws_app a r h.2
  rw [List.cons_append, wordsSigns.eq_3 _ _ (fun e => hc e), ih]
def w1 : List Char := ioL.take 7
def w2 : List Char := (ioL.drop 8).take 64
def w3 : List Char := (ioL.drop 73).take 3
theorem ws_is : ∃ ws, wordsSigns ioL = w1 :: w2 :: w3 :: ws := by
 have e : ioL = w1 ++ Char.ofNat 32 :: (w2 ++ Char.ofNat 32 :: (w3 ++ Char.ofNat 32 :: ioL.drop 77)) := by kernel_rfl
 exact ⟨wordsSigns (ioL.drop 77), by rw [e, ws_app _ _ (by kernel_rfl), ws_app _ _ (by kernel_rfl), ws_app _ _ (by kernel_rfl), ← e]⟩
theorem may_of {P : Program} {l : List Char} {ws : List (List Char)} (h : P.initOrder.toList = l) (hw : wordsSigns l = w1 :: w2 :: w3 :: ws) (h1 : P.laysLater = false) (h2 : P.bearsReflect = false) (h3 : P.doorFits [] = true) : P.mayEnter = true := by
 unfold Program.mayEnter
 rw [h, hw, h1, h2]
 have e : (stripLifts liftWords (w3 :: ws)) = ([], w3 :: ws) := by kernel_rfl
 have e2 : behindMainWord (w1 :: w2 :: w3 :: ws) = w3 :: ws := by kernel_rfl
 rw [e2]
 have e3 : w3 = "cut".toList := by kernel_rfl
 simp only [e, h3]
 rw [e3]
 simp
theorem lifts_of {P : Program} {l : List Char} {ws : List (List Char)} (h : P.initOrder.toList = l) (hw : wordsSigns l = w1 :: w2 :: w3 :: ws) : P.liftsFinal = false := by
 unfold Program.liftsFinal Program.headLifts
 rw [h, hw]
 kernel_rfl
theorem make_of {P : Program} {l : List Char} {ws : List (List Char)} (h : P.initOrder.toList = l) (hw : wordsSigns l = w1 :: w2 :: w3 :: ws) : P.make = some .cut := by
 unfold Program.make Program.headLifts
 rw [h, hw]
 kernel_rfl
theorem may_is : Try.pinned.checked.prog.mayEnter = true := ws_is.elim fun _ hw => may_of io_list hw (by kernel_rfl) (by kernel_rfl) (by kernel_rfl)
theorem lifts_is : Try.pinned.checked.prog.liftsFinal = false := ws_is.elim fun _ hw => lifts_of io_list hw
theorem make_is : Try.pinned.checked.prog.make = some .cut := ws_is.elim fun _ hw => make_of io_list hw
theorem beq_f {a b : Bool} (h : b = false) (ha : a = false) : (a == b) = true := by rw [h, ha]; rfl
theorem beq_m {a b : Option Make} (h : a = some .cut) (hb : b = some .cut) : (a == b) = true := by rw [h, hb]; rfl
end Go.Proofs.Ytkhhbpocmmmnmaa
