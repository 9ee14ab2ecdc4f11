/- The contexts, one function after another, are the program's. Conditions: none. -/
import Derived.Test.YtjigflnjgmgmnaaDoorClD
import Derived.Test.YtjigflnjgmgmnaaDoorClX
import Derived.Test.YtjigflnjgmgmnaaDoorGhG
namespace Go.Proofs.YtjigflnjgmgmnaaDoor
open Go Go.Gh Go.Proofs
theorem ok107 : CtxOK' cx107 := CtxOK'.add ok0 (f := 107) (c := C107) (ghost_ok ok0 S107 6000 107 _ _) (fn_is (List.mem_range.2 (by decide)) (by kernel_rfl))
theorem ok135 : CtxOK' cx135 := CtxOK'.add ok107 (f := 135) (c := C135) (ghost_ok ok107 S135 6000 135 _ _) (fn_is (List.mem_range.2 (by decide)) (by kernel_rfl))
theorem ok136 : CtxOK' cx136 := CtxOK'.add ok135 (f := 136) (c := C136) (ghost_ok ok135 S136 6000 136 _ _) (fn_is (List.mem_range.2 (by decide)) (by kernel_rfl))
theorem ok137 : CtxOK' cx137 := CtxOK'.add ok136 (f := 137) (c := C137) (ghost_ok ok136 S137 6000 137 _ _) (fn_is (List.mem_range.2 (by decide)) (by kernel_rfl))
theorem ok125 : CtxOK' cx125 := CtxOK'.add ok137 (f := 125) (c := C125) (ghost_ok ok137 S125 6000 125 _ _) (fn_is (List.mem_range.2 (by decide)) (by kernel_rfl))
theorem ok126 : CtxOK' cx126 := CtxOK'.add ok125 (f := 126) (c := C126) (ghost_ok ok125 S126 6000 126 _ _) (fn_is (List.mem_range.2 (by decide)) (by kernel_rfl))
theorem ok84 : CtxOK' cx84 := CtxOK'.add ok126 (f := 84) (c := C84) (ghost_ok ok126 S84 6000 84 _ _) (fn_is (List.mem_range.2 (by decide)) (by kernel_rfl))
theorem ok18 : CtxOK' cx18 := CtxOK'.add ok84 (f := 18) (c := C18) (ghost_ok ok84 S18 6000 18 _ _) (fn_is (List.mem_range.2 (by decide)) (by kernel_rfl))
theorem ok88 : CtxOK' cx88 := CtxOK'.add ok18 (f := 88) (c := C88) (ghost_ok ok18 S88 6000 88 _ _) (fn_is (List.mem_range.2 (by decide)) (by kernel_rfl))
theorem ok110 : CtxOK' cx110 := CtxOK'.add ok88 (f := 110) (c := C110) (ghost_ok ok88 S110 6000 110 _ _) (fn_is (List.mem_range.2 (by decide)) (by kernel_rfl))
theorem ok87 : CtxOK' cx87 := CtxOK'.add ok110 (f := 87) (c := C87) (ghost_ok ok110 S87 6000 87 _ _) (fn_is (List.mem_range.2 (by decide)) (by kernel_rfl))
theorem ok20 : CtxOK' cx20 := CtxOK'.add ok87 (f := 20) (c := C20) (ghost_ok ok87 S20 6000 20 _ _) (fn_is (List.mem_range.2 (by decide)) (by kernel_rfl))
theorem ok127 : CtxOK' cx127 := CtxOK'.add ok20 (f := 127) (c := C127) (ghost_ok ok20 S127 6000 127 _ _) (fn_is (List.mem_range.2 (by decide)) (by kernel_rfl))
theorem ok128 : CtxOK' cx128 := CtxOK'.add ok127 (f := 128) (c := C128) (ghost_ok ok127 S128 6000 128 _ _) (fn_is (List.mem_range.2 (by decide)) (by kernel_rfl))
theorem ok92 : CtxOK' cx92 := CtxOK'.add ok128 (f := 92) (c := C92) (ghost_ok ok128 S92 6000 92 _ _) (fn_is (List.mem_range.2 (by decide)) (by kernel_rfl))
theorem ok23 : CtxOK' cx23 := CtxOK'.add ok92 (f := 23) (c := C23) (ghost_ok ok92 S23 6000 23 _ _) (fn_is (List.mem_range.2 (by decide)) (by kernel_rfl))
theorem ok25 : CtxOK' cx25 := CtxOK'.add ok23 (f := 25) (c := C25) (ghost_ok ok23 S25 6000 25 _ _) (fn_is (List.mem_range.2 (by decide)) (by kernel_rfl))
theorem con_krt {cx : Ctx} (a : FuncId → Bool) (b c : Nat → Bool) {f : FuncId} {d : Con} (h : ConOK { cx with keep := a, rows := b, twin := c } f d) : ConOK cx f d := h
theorem con_twin {cx : Ctx} (c : Nat → Bool) {f : FuncId} {d : Con} (h : ConOK { cx with twin := c } f d) : ConOK cx f d := h
theorem setKRT {cx : Ctx} (h : CtxOK' cx) (a : FuncId → Bool) (b c : Nat → Bool) : CtxOK' { cx with keep := a, rows := b, twin := c } :=
 ⟨⟨⟨h.te, h.con, h.rcon, h.cst⟩, h.map, h.inl, h.mixed, h.globm⟩, h.sub, h.fcon⟩
theorem okK28 : CtxOK' cxK28 := setKRT ok25 _ _ _
theorem ok28 : CtxOK' cx28 := CtxOK'.add ok25 (f := 28) (c := C28) (con_krt (cx := cx25) (fun n => Nat.beq n 95) (fun n => Nat.beq n 950045) (fun n => Nat.beq n 950016) (ghost_ok okK28 S28 6000 28 _ _)) (fn_is (List.mem_range.2 (by decide)) (by kernel_rfl))
theorem okK31 : CtxOK' cxK31 := setKRT ok28 _ _ _
theorem ok31 : CtxOK' cx31 := CtxOK'.add ok28 (f := 31) (c := C31) (con_krt (cx := cx28) (fun n => Nat.beq n 95) (fun n => Nat.beq n 950045) (fun n => Nat.beq n 950016) (ghost_ok okK31 S31 6000 31 _ _)) (fn_is (List.mem_range.2 (by decide)) (by kernel_rfl))
theorem ok106 : CtxOK' cx106 := CtxOK'.add ok31 (f := 106) (c := C106) (ghost_ok ok31 S106 6000 106 _ _) (fn_is (List.mem_range.2 (by decide)) (by kernel_rfl))
theorem ok33 : CtxOK' cx33 := CtxOK'.add ok106 (f := 33) (c := C33) (ghost_ok ok106 S33 6000 33 _ _) (fn_is (List.mem_range.2 (by decide)) (by kernel_rfl))
theorem ok138 : CtxOK' cx138 := CtxOK'.add ok33 (f := 138) (c := C138) (ghost_ok ok33 S138 6000 138 _ _) (fn_is (List.mem_range.2 (by decide)) (by kernel_rfl))
theorem ok132 : CtxOK' cx132 := CtxOK'.add ok138 (f := 132) (c := C132) (ghost_ok ok138 S132 6000 132 _ _) (fn_is (List.mem_range.2 (by decide)) (by kernel_rfl))
theorem ok109 : CtxOK' cx109 := CtxOK'.add ok132 (f := 109) (c := C109) (ghost_ok ok132 S109 6000 109 _ _) (fn_is (List.mem_range.2 (by decide)) (by kernel_rfl))
theorem okK35 : CtxOK' cxK35 := CtxOK'.setTwin ok109 _
theorem ok35 : CtxOK' cx35 := CtxOK'.add ok109 (f := 35) (c := C35) (con_twin (cx := cx109) (fun n => Nat.beq n 350051) (ghost_ok okK35 S35 6000 35 _ _)) (fn_is (List.mem_range.2 (by decide)) (by kernel_rfl))
theorem ok48 : CtxOK' cx48 := CtxOK'.add ok35 (f := 48) (c := C48) (ghost_ok ok35 S48 6000 48 _ _) (fn_is (List.mem_range.2 (by decide)) (by kernel_rfl))
theorem ok117 : CtxOK' cx117 := CtxOK'.add ok48 (f := 117) (c := C117) (ghost_ok ok48 S117 6000 117 _ _) (fn_is (List.mem_range.2 (by decide)) (by kernel_rfl))
theorem ok56 : CtxOK' cx56 := CtxOK'.add ok117 (f := 56) (c := C56) (ghost_ok ok117 S56 6000 56 _ _) (fn_is (List.mem_range.2 (by decide)) (by kernel_rfl))
theorem ok19 : CtxOK' cx19 := CtxOK'.add ok56 (f := 19) (c := C19) (ghost_ok ok56 S19 6000 19 _ _) (fn_is (List.mem_range.2 (by decide)) (by kernel_rfl))
theorem ok116 : CtxOK' cx116 := CtxOK'.add ok19 (f := 116) (c := C116) (ghost_ok ok19 S116 6000 116 _ _) (fn_is (List.mem_range.2 (by decide)) (by kernel_rfl))
theorem ok59 : CtxOK' cx59 := CtxOK'.add ok116 (f := 59) (c := C59) (ghost_ok ok116 S59 6000 59 _ _) (fn_is (List.mem_range.2 (by decide)) (by kernel_rfl))
theorem ok94 : CtxOK' cx94 := CtxOK'.add ok59 (f := 94) (c := C94) (ghost_ok ok59 S94 6000 94 _ _) (fn_is (List.mem_range.2 (by decide)) (by kernel_rfl))
theorem ok89 : CtxOK' cx89 := CtxOK'.add ok94 (f := 89) (c := C89) (ghost_ok ok94 S89 6000 89 _ _) (fn_is (List.mem_range.2 (by decide)) (by kernel_rfl))
theorem ok90 : CtxOK' cx90 := CtxOK'.add ok89 (f := 90) (c := C90) (ghost_ok ok89 S90 6000 90 _ _) (fn_is (List.mem_range.2 (by decide)) (by kernel_rfl))
theorem ok62 : CtxOK' cx62 := CtxOK'.add ok90 (f := 62) (c := C62) (ghost_ok ok90 S62 6000 62 _ _) (fn_is (List.mem_range.2 (by decide)) (by kernel_rfl))
theorem ok61 : CtxOK' cx61 := CtxOK'.add ok62 (f := 61) (c := C61) (ghost_ok ok62 S61 6000 61 _ _) (fn_is (List.mem_range.2 (by decide)) (by kernel_rfl))
theorem ok21 : CtxOK' cx21 := CtxOK'.add ok61 (f := 21) (c := C21) (ghost_ok ok61 S21 6000 21 _ _) (fn_is (List.mem_range.2 (by decide)) (by kernel_rfl))
theorem ok113 : CtxOK' cx113 := CtxOK'.add ok21 (f := 113) (c := C113) (ghost_ok ok21 S113 6000 113 _ _) (fn_is (List.mem_range.2 (by decide)) (by kernel_rfl))
theorem ok43 : CtxOK' cx43 := CtxOK'.add ok113 (f := 43) (c := C43) (ghost_ok ok113 S43 6000 43 _ _) (fn_is (List.mem_range.2 (by decide)) (by kernel_rfl))
theorem ok93 : CtxOK' cx93 := CtxOK'.add ok43 (f := 93) (c := C93) (ghost_ok ok43 S93 6000 93 _ _) (fn_is (List.mem_range.2 (by decide)) (by kernel_rfl))
theorem ok24 : CtxOK' cx24 := CtxOK'.add ok93 (f := 24) (c := C24) (ghost_ok ok93 S24 6000 24 _ _) (fn_is (List.mem_range.2 (by decide)) (by kernel_rfl))
theorem ok55 : CtxOK' cx55 := CtxOK'.add ok24 (f := 55) (c := C55) (ghost_ok ok24 S55 6000 55 _ _) (fn_is (List.mem_range.2 (by decide)) (by kernel_rfl))
theorem ok26 : CtxOK' cx26 := CtxOK'.add ok55 (f := 26) (c := C26) (ghost_ok ok55 S26 6000 26 _ _) (fn_is (List.mem_range.2 (by decide)) (by kernel_rfl))
theorem ok131 : CtxOK' cx131 := CtxOK'.add ok26 (f := 131) (c := C131) (ghost_ok ok26 S131 6000 131 _ _) (fn_is (List.mem_range.2 (by decide)) (by kernel_rfl))
theorem ok102 : CtxOK' cx102 := CtxOK'.add ok131 (f := 102) (c := C102) (ghost_ok ok131 S102 6000 102 _ _) (fn_is (List.mem_range.2 (by decide)) (by kernel_rfl))
theorem ok29 : CtxOK' cx29 := CtxOK'.add ok102 (f := 29) (c := C29) (ghost_ok ok102 S29 6000 29 _ _) (fn_is (List.mem_range.2 (by decide)) (by kernel_rfl))
theorem ok105 : CtxOK' cx105 := CtxOK'.add ok29 (f := 105) (c := C105) (ghost_ok ok29 S105 6000 105 _ _) (fn_is (List.mem_range.2 (by decide)) (by kernel_rfl))
theorem ok32 : CtxOK' cx32 := CtxOK'.add ok105 (f := 32) (c := C32) (ghost_ok ok105 S32 6000 32 _ _) (fn_is (List.mem_range.2 (by decide)) (by kernel_rfl))
theorem ok60 : CtxOK' cx60 := CtxOK'.add ok32 (f := 60) (c := C60) (ghost_ok ok32 S60 6000 60 _ _) (fn_is (List.mem_range.2 (by decide)) (by kernel_rfl))
theorem ok34 : CtxOK' cx34 := CtxOK'.add ok60 (f := 34) (c := C34) (ghost_ok ok60 S34 6000 34 _ _) (fn_is (List.mem_range.2 (by decide)) (by kernel_rfl))
theorem ok50 : CtxOK' cx50 := CtxOK'.add ok34 (f := 50) (c := C50) (ghost_ok ok34 S50 6000 50 _ _) (fn_is (List.mem_range.2 (by decide)) (by kernel_rfl))
theorem ok111 : CtxOK' cx111 := CtxOK'.add ok50 (f := 111) (c := C111) (ghost_ok ok50 S111 6000 111 _ _) (fn_is (List.mem_range.2 (by decide)) (by kernel_rfl))
theorem ok52 : CtxOK' cx52 := CtxOK'.add ok111 (f := 52) (c := C52) (ghost_ok ok111 S52 6000 52 _ _) (fn_is (List.mem_range.2 (by decide)) (by kernel_rfl))
theorem ok36 : CtxOK' cx36 := CtxOK'.add ok52 (f := 36) (c := C36) (ghost_ok ok52 S36 6000 36 _ _) (fn_is (List.mem_range.2 (by decide)) (by kernel_rfl))
theorem ok30 : CtxOK' cx30 := CtxOK'.add ok36 (f := 30) (c := C30) (ghost_ok ok36 S30 6000 30 _ _) (fn_is (List.mem_range.2 (by decide)) (by kernel_rfl))
theorem ok27 : CtxOK' cx27 := CtxOK'.add ok30 (f := 27) (c := C27) (ghost_ok ok30 S27 6000 27 _ _) (fn_is (List.mem_range.2 (by decide)) (by kernel_rfl))
theorem ok38 : CtxOK' cx38 := CtxOK'.add ok27 (f := 38) (c := C38) (ghost_ok ok27 S38 6000 38 _ _) (fn_is (List.mem_range.2 (by decide)) (by kernel_rfl))
theorem ok91 : CtxOK' cx91 := CtxOK'.add ok38 (f := 91) (c := C91) (ghost_ok ok38 S91 6000 91 _ _) (fn_is (List.mem_range.2 (by decide)) (by kernel_rfl))
theorem ok37 : CtxOK' cx37 := CtxOK'.add ok91 (f := 37) (c := C37) (ghost_ok ok91 S37 6000 37 _ _) (fn_is (List.mem_range.2 (by decide)) (by kernel_rfl))
theorem ok22 : CtxOK' cx22 := CtxOK'.add ok37 (f := 22) (c := C22) (ghost_ok ok37 S22 6000 22 _ _) (fn_is (List.mem_range.2 (by decide)) (by kernel_rfl))
end Go.Proofs.YtjigflnjgmgmnaaDoor
