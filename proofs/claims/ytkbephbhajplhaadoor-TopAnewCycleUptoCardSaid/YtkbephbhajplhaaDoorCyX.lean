/- The seat's context for the ghost machine: the table of its types. Conditions: none (definitions alone). -/
import Derived.Test.YtkbephbhajplhaaDoorGhG
import Derived.Test.YtkbephbhajplhaaDoorProg
namespace Go.Proofs.YtkbephbhajplhaaDoor
open Go Go.Gh
def te3 : TE := ⟨1, false, (.int .i64), (some (.int .i64)), true, (some (.dat (.int .i64) (dflt (.int .i64))))⟩
def te4 : TE := ⟨1, false, .other, (some .bool), true, (some (.dat .bool (dflt .bool)))⟩
def te5 : TE := ⟨1, false, (.int .u8), (some (.int .u8)), true, (some (.dat (.int .u8) (dflt (.int .u8))))⟩
def te9 : TE := ⟨1, false, .other, (some .str), true, (some (.dat .str (dflt .str)))⟩
def te22 : TE := ⟨1, false, (.slice 25 2), (some (.slice (.struct [(.int .i64), (.int .i64)]))), false, (some .nilsl)⟩
def te23 : TE := ⟨1, false, (.slice 74 4), (some (.slice (.struct [(.int .i64), (.int .i64), (.struct [(.int .i64), (.int .i64)])]))), false, (some .nilsl)⟩
def te25 : TE := ⟨2, true, (.struct [0, 1] [1, 1]), (some (.struct [(.int .i64), (.int .i64)])), true, (some (.dat (.struct [(.int .i64), (.int .i64)]) (dflt (.struct [(.int .i64), (.int .i64)]))))⟩
def te27 : TE := ⟨4, true, (.struct [0, 1, 2] [1, 1, 2]), (some (.struct [(.slice (.struct [(.int .i64), (.int .i64)])), (.slice (.struct [(.int .i64), (.int .i64), (.struct [(.int .i64), (.int .i64)])])), (.struct [(.int .i64), (.int .i64)])])), false, (some (.dat (.struct [(.slice (.struct [(.int .i64), (.int .i64)])), (.slice (.struct [(.int .i64), (.int .i64), (.struct [(.int .i64), (.int .i64)])])), (.struct [(.int .i64), (.int .i64)])]) (dflt (.struct [(.slice (.struct [(.int .i64), (.int .i64)])), (.slice (.struct [(.int .i64), (.int .i64), (.struct [(.int .i64), (.int .i64)])])), (.struct [(.int .i64), (.int .i64)])]))))⟩
def te28 : TE := ⟨2, true, (.array 2 3 1), (some (.arr 2 (.int .i64))), true, (some (.dat (.arr 2 (.int .i64)) (dflt (.arr 2 (.int .i64)))))⟩
def te29 : TE := ⟨1, false, (.int .i64), (some (.int .i64)), true, (some (.dat (.int .i64) (dflt (.int .i64))))⟩
def te35 : TE := ⟨2, true, (.struct [0, 1] [1, 1]), (some (.struct [(.int .i64), (.int .i64)])), true, (some (.dat (.struct [(.int .i64), (.int .i64)]) (dflt (.struct [(.int .i64), (.int .i64)]))))⟩
def te43 : TE := ⟨1, false, (.slice 3 1), (some (.slice (.int .i64))), false, (some .nilsl)⟩
def te53 : TE := ⟨1, false, (.slice 5 1), (some (.slice (.int .u8))), false, (some .nilsl)⟩
def te66 : TE := ⟨1, false, (.int .u16), (some (.int .u16)), true, (some (.dat (.int .u16) (dflt (.int .u16))))⟩
def te67 : TE := ⟨1, false, (.slice 43 1), (some (.slice (.slice (.int .i64)))), false, (some .nilsl)⟩
def te70 : TE := ⟨1, false, .other, none, false, (some .nilf)⟩
def te74 : TE := ⟨4, true, (.struct [0, 1, 2] [1, 1, 2]), (some (.struct [(.int .i64), (.int .i64), (.struct [(.int .i64), (.int .i64)])])), true, (some (.dat (.struct [(.int .i64), (.int .i64), (.struct [(.int .i64), (.int .i64)])]) (dflt (.struct [(.int .i64), (.int .i64), (.struct [(.int .i64), (.int .i64)])]))))⟩
def te77 : TE := ⟨3, true, (.array 3 5 1), (some (.arr 3 (.int .u8))), true, (some (.dat (.arr 3 (.int .u8)) (dflt (.arr 3 (.int .u8)))))⟩
def te80 : TE := ⟨10, true, (.struct [0, 4, 5, 6, 7, 9] [4, 1, 1, 1, 2, 1]), (some (.struct [(.struct [(.slice (.struct [(.int .i64), (.int .i64)])), (.slice (.struct [(.int .i64), (.int .i64), (.struct [(.int .i64), (.int .i64)])])), (.struct [(.int .i64), (.int .i64)])]), (.int .i64), (.int .i64), (.int .i64), (.struct [(.int .i64), (.int .i64)]), (.int .i64)])), false, (some (.dat (.struct [(.struct [(.slice (.struct [(.int .i64), (.int .i64)])), (.slice (.struct [(.int .i64), (.int .i64), (.struct [(.int .i64), (.int .i64)])])), (.struct [(.int .i64), (.int .i64)])]), (.int .i64), (.int .i64), (.int .i64), (.struct [(.int .i64), (.int .i64)]), (.int .i64)]) (dflt (.struct [(.struct [(.slice (.struct [(.int .i64), (.int .i64)])), (.slice (.struct [(.int .i64), (.int .i64), (.struct [(.int .i64), (.int .i64)])])), (.struct [(.int .i64), (.int .i64)])]), (.int .i64), (.int .i64), (.int .i64), (.struct [(.int .i64), (.int .i64)]), (.int .i64)]))))⟩
def te81 : TE := ⟨1, false, (.slice 9 1), (some (.slice .str)), false, (some .nilsl)⟩
def te83 : TE := ⟨2, true, (.struct [0, 1] [1, 1]), (some (.struct [(.slice (.int .i64)), (.slice .str)])), false, (some (.agg [.nilsl, .nilsl]))⟩
def te85 : TE := ⟨1, false, .other, none, false, (some .nilp)⟩
def te87 : TE := ⟨1, false, .other, none, false, (some .nilf)⟩
def te89 : TE := ⟨1, false, .other, none, false, (some .nilf)⟩
def te90 : TE := ⟨1, false, .other, none, false, (some .nilf)⟩
def te94 : TE := ⟨1, false, .other, none, false, (some .nilp)⟩
def te100 : TE := ⟨1, false, .other, none, false, (some .nilf)⟩
def te103 : TE := ⟨1, false, .other, none, false, (some .nilf)⟩
def te105 : TE := ⟨1, false, .other, (some (.hnd 0 (.struct [(.struct [(.slice (.struct [(.int .i64), (.int .i64)])), (.slice (.struct [(.int .i64), (.int .i64), (.struct [(.int .i64), (.int .i64)])])), (.struct [(.int .i64), (.int .i64)])]), (.int .i64)]))), false, (some .nilp)⟩
def te117 : TE := ⟨7, true, (.array 7 3 1), (some (.arr 7 (.int .i64))), true, (some (.dat (.arr 7 (.int .i64)) (dflt (.arr 7 (.int .i64)))))⟩
def te118 : TE := ⟨1, false, .other, none, false, (some .nilf)⟩
def te126 : TE := ⟨1, true, (.struct [0] [1]), none, false, (some (.agg [.nilf]))⟩
def te127 : TE := ⟨3, true, (.array 3 126 1), none, false, (some (.arrL [(.agg [.nilf]), (.agg [.nilf]), (.agg [.nilf])]))⟩
def te138 : TE := ⟨1, false, .other, none, false, (some .nilf)⟩
def te140 : TE := ⟨1, false, .other, none, false, (some .nilf)⟩
def te141 : TE := ⟨1, false, .other, none, false, (some .nilf)⟩
def te142 : TE := ⟨1, false, .other, none, false, (some .nilm)⟩
def te144 : TE := ⟨6, true, (.struct [0, 4, 5] [4, 1, 1]), none, false, (some (.agg [(.dat (.struct [(.slice (.struct [(.int .i64), (.int .i64)])), (.slice (.struct [(.int .i64), (.int .i64), (.struct [(.int .i64), (.int .i64)])])), (.struct [(.int .i64), (.int .i64)])]) (dflt (.struct [(.slice (.struct [(.int .i64), (.int .i64)])), (.slice (.struct [(.int .i64), (.int .i64), (.struct [(.int .i64), (.int .i64)])])), (.struct [(.int .i64), (.int .i64)])]))), (.dat (.int .i64) (dflt (.int .i64))), .nilm]))⟩
def te148 : TE := ⟨1, false, .other, none, false, (some .nilp)⟩
def te153 : TE := ⟨1, false, .other, none, false, (some .nilf)⟩
def teL : List (Nat × TE) := [(3, te3), (4, te4), (5, te5), (9, te9), (22, te22), (23, te23), (25, te25), (27, te27), (28, te28), (29, te29), (35, te35), (43, te43), (53, te53), (66, te66), (67, te67), (70, te70), (74, te74), (77, te77), (80, te80), (81, te81), (83, te83), (85, te85), (87, te87), (89, te89), (90, te90), (94, te94), (100, te100), (103, te103), (105, te105), (117, te117), (118, te118), (126, te126), (127, te127), (138, te138), (140, te140), (141, te141), (142, te142), (144, te144), (148, te148), (153, te153)]
def globs (g : Nat) : AV := cond (Nat.beq g 0) (.cptr (.struct [.int .i64, .int .i64]) (1099511627776, -1, ())) .any
def inls (f : Nat) : Bool := Nat.ble 3 f && Nat.ble f 134
noncomputable def cxOf (con : FuncId → Option Con) (memo : Nat → Option Memo) : Ctx := { P := Go.Proofs.Tryd.prog, te := lookT teL, con, memo, glob := globs, inl := inls }
end Go.Proofs.YtkbephbhajplhaaDoor
/- Maxima of numbers, as the program comes to them. Conditions: none (definitions alone). -/
namespace Go.Proofs.YtkbephbhajplhaaDoor
open Go Go.Gh Go.Proofs
abbrev Sp := Int × Int × Unit
abbrev Sm := Int × Int × Sp × Unit
abbrev Se := List Sp × List Sm × Sp × Unit
abbrev Sb := Se × Int × Unit
def sp0 : Sp := (0, 0, ())
def sm0 : Sm := (0, 0, sp0, ())
abbrev tSp : Ty := .struct [.int .i64, .int .i64]
abbrev tSm : Ty := .struct [.int .i64, .int .i64, tSp]
abbrev u8 : Unit × Unit × Unit × Unit × Unit × Unit × Unit × Unit := ((), (), (), (), (), (), (), ())
abbrev tSe : Ty := .struct [.slice tSp, .slice tSm, tSp]
def topP (t : List Int) (i : Nat) : Bool := decide (t.getD (i - 1) 0 < t.getD i 0) && decide (t.getD (i + 1) 0 < t.getD i 0)
def bitsP (p : Nat → Bool) : Nat → Nat
 | 0 => 0
 | n + 1 => bitsP p n + (if p n = true then 2 ^ n else 0)
def topsP (n : Nat) (t : List Int) : Nat := bitsP (fun i => decide (0 < i) && decide (i + 1 < n) && topP t i) n
def topsF (m : denL [tSe, .int .i64]) (t : den (.arr 7 (.int .i64))) : Option (den (.int .i64)) := some ((topsP (m : Sb).1.1.length t : Nat) : Int)
def memoC (i : Nat) : Option Memo := cond (Nat.beq i 0) (some { T := 144, ts := [tSe, .int .i64], M := 142, key := .arr 7 (.int .i64), val := .int .i64, f := topsF }) none
noncomputable def cx00 : Ctx := { cxOf (fun _ => none) memoC with rows := fun n => Nat.beq n 1040030, twin := fun n => Nat.beq n 330027 }
def sightsA : AV := .arrL [.agg [.fn 124 [] []], .agg [.fn 125 [] []], .agg [.fn 126 [] []]]
noncomputable def cx0 : Ctx := cx00.addC 103 sightsA
end Go.Proofs.YtkbephbhajplhaaDoor
/- The seat's context for the ghost machine: its types are those of the program. Conditions: none. -/
namespace Go.Proofs.YtkbephbhajplhaaDoor
open Go Go.Gh Go.Proofs
theorem teok3 : TEok Tryd.prog 3 te3 := te_of (some (.dat (.int .i64))) (by kernel_rfl) (by kernel_rfl) ⟨by kernel_rfl, by kernel_rfl, by kernel_rfl, by kernel_rfl⟩
theorem teok4 : TEok Tryd.prog 4 te4 := te_of (some (.dat .bool)) (by kernel_rfl) (by kernel_rfl) ⟨by kernel_rfl, by kernel_rfl, by kernel_rfl, by kernel_rfl⟩
theorem teok5 : TEok Tryd.prog 5 te5 := te_of (some (.dat (.int .u8))) (by kernel_rfl) (by kernel_rfl) ⟨by kernel_rfl, by kernel_rfl, by kernel_rfl, by kernel_rfl⟩
theorem teok9 : TEok Tryd.prog 9 te9 := te_of (some (.dat .str)) (by kernel_rfl) (by kernel_rfl) ⟨by kernel_rfl, by kernel_rfl, by kernel_rfl, by kernel_rfl⟩
theorem teok22 : TEok Tryd.prog 22 te22 := te_of (some .nilsl) (by kernel_rfl) (by kernel_rfl) ⟨by kernel_rfl, by kernel_rfl, by kernel_rfl, by kernel_rfl⟩
theorem teok23 : TEok Tryd.prog 23 te23 := te_of (some .nilsl) (by kernel_rfl) (by kernel_rfl) ⟨by kernel_rfl, by kernel_rfl, by kernel_rfl, by kernel_rfl⟩
theorem teok25 : TEok Tryd.prog 25 te25 := te_of (some (.dat (.struct [(.int .i64), (.int .i64)]))) (by kernel_rfl) (by kernel_rfl) ⟨by kernel_rfl, by kernel_rfl, by kernel_rfl, by kernel_rfl⟩
theorem teok27 : TEok Tryd.prog 27 te27 := te_of (some (.dat (.struct [(.slice (.struct [(.int .i64), (.int .i64)])), (.slice (.struct [(.int .i64), (.int .i64), (.struct [(.int .i64), (.int .i64)])])), (.struct [(.int .i64), (.int .i64)])]))) (by kernel_rfl) (by kernel_rfl) ⟨by kernel_rfl, by kernel_rfl, by kernel_rfl, by kernel_rfl⟩
theorem teok28 : TEok Tryd.prog 28 te28 := te_of (some (.dat (.arr 2 (.int .i64)))) (by kernel_rfl) (by kernel_rfl) ⟨by kernel_rfl, by kernel_rfl, by kernel_rfl, by kernel_rfl⟩
theorem teok29 : TEok Tryd.prog 29 te29 := te_of (some (.dat (.int .i64))) (by kernel_rfl) (by kernel_rfl) ⟨by kernel_rfl, by kernel_rfl, by kernel_rfl, by kernel_rfl⟩
theorem teok35 : TEok Tryd.prog 35 te35 := te_of (some (.dat (.struct [(.int .i64), (.int .i64)]))) (by kernel_rfl) (by kernel_rfl) ⟨by kernel_rfl, by kernel_rfl, by kernel_rfl, by kernel_rfl⟩
theorem teok43 : TEok Tryd.prog 43 te43 := te_of (some .nilsl) (by kernel_rfl) (by kernel_rfl) ⟨by kernel_rfl, by kernel_rfl, by kernel_rfl, by kernel_rfl⟩
theorem teok53 : TEok Tryd.prog 53 te53 := te_of (some .nilsl) (by kernel_rfl) (by kernel_rfl) ⟨by kernel_rfl, by kernel_rfl, by kernel_rfl, by kernel_rfl⟩
theorem teok66 : TEok Tryd.prog 66 te66 := te_of (some (.dat (.int .u16))) (by kernel_rfl) (by kernel_rfl) ⟨by kernel_rfl, by kernel_rfl, by kernel_rfl, by kernel_rfl⟩
theorem teok67 : TEok Tryd.prog 67 te67 := te_of (some .nilsl) (by kernel_rfl) (by kernel_rfl) ⟨by kernel_rfl, by kernel_rfl, by kernel_rfl, by kernel_rfl⟩
theorem teok70 : TEok Tryd.prog 70 te70 := te_of (some .nilf) (by kernel_rfl) (by kernel_rfl) ⟨by kernel_rfl, by kernel_rfl, by kernel_rfl, by kernel_rfl⟩
theorem teok74 : TEok Tryd.prog 74 te74 := te_of (some (.dat (.struct [(.int .i64), (.int .i64), (.struct [(.int .i64), (.int .i64)])]))) (by kernel_rfl) (by kernel_rfl) ⟨by kernel_rfl, by kernel_rfl, by kernel_rfl, by kernel_rfl⟩
theorem teok77 : TEok Tryd.prog 77 te77 := te_of (some (.dat (.arr 3 (.int .u8)))) (by kernel_rfl) (by kernel_rfl) ⟨by kernel_rfl, by kernel_rfl, by kernel_rfl, by kernel_rfl⟩
theorem teok80 : TEok Tryd.prog 80 te80 := te_of (some (.dat (.struct [(.struct [(.slice (.struct [(.int .i64), (.int .i64)])), (.slice (.struct [(.int .i64), (.int .i64), (.struct [(.int .i64), (.int .i64)])])), (.struct [(.int .i64), (.int .i64)])]), (.int .i64), (.int .i64), (.int .i64), (.struct [(.int .i64), (.int .i64)]), (.int .i64)]))) (by kernel_rfl) (by kernel_rfl) ⟨by kernel_rfl, by kernel_rfl, by kernel_rfl, by kernel_rfl⟩
theorem teok81 : TEok Tryd.prog 81 te81 := te_of (some .nilsl) (by kernel_rfl) (by kernel_rfl) ⟨by kernel_rfl, by kernel_rfl, by kernel_rfl, by kernel_rfl⟩
theorem teok83 : TEok Tryd.prog 83 te83 := te_of (some (.agg [.nilsl, .nilsl])) (by kernel_rfl) (by kernel_rfl) ⟨by kernel_rfl, by kernel_rfl, by kernel_rfl, by kernel_rfl⟩
theorem teok85 : TEok Tryd.prog 85 te85 := te_of (some .nilp) (by kernel_rfl) (by kernel_rfl) ⟨by kernel_rfl, by kernel_rfl, by kernel_rfl, by kernel_rfl⟩
theorem teok87 : TEok Tryd.prog 87 te87 := te_of (some .nilf) (by kernel_rfl) (by kernel_rfl) ⟨by kernel_rfl, by kernel_rfl, by kernel_rfl, by kernel_rfl⟩
theorem teok89 : TEok Tryd.prog 89 te89 := te_of (some .nilf) (by kernel_rfl) (by kernel_rfl) ⟨by kernel_rfl, by kernel_rfl, by kernel_rfl, by kernel_rfl⟩
theorem teok90 : TEok Tryd.prog 90 te90 := te_of (some .nilf) (by kernel_rfl) (by kernel_rfl) ⟨by kernel_rfl, by kernel_rfl, by kernel_rfl, by kernel_rfl⟩
theorem teok94 : TEok Tryd.prog 94 te94 := te_of (some .nilp) (by kernel_rfl) (by kernel_rfl) ⟨by kernel_rfl, by kernel_rfl, by kernel_rfl, by kernel_rfl⟩
theorem teok100 : TEok Tryd.prog 100 te100 := te_of (some .nilf) (by kernel_rfl) (by kernel_rfl) ⟨by kernel_rfl, by kernel_rfl, by kernel_rfl, by kernel_rfl⟩
theorem teok103 : TEok Tryd.prog 103 te103 := te_of (some .nilf) (by kernel_rfl) (by kernel_rfl) ⟨by kernel_rfl, by kernel_rfl, by kernel_rfl, by kernel_rfl⟩
theorem teok105 : TEok Tryd.prog 105 te105 := te_of (some .nilp) (by kernel_rfl) (by kernel_rfl) ⟨by kernel_rfl, by kernel_rfl, by kernel_rfl, by kernel_rfl⟩
theorem teok117 : TEok Tryd.prog 117 te117 := te_of (some (.dat (.arr 7 (.int .i64)))) (by kernel_rfl) (by kernel_rfl) ⟨by kernel_rfl, by kernel_rfl, by kernel_rfl, by kernel_rfl⟩
theorem teok118 : TEok Tryd.prog 118 te118 := te_of (some .nilf) (by kernel_rfl) (by kernel_rfl) ⟨by kernel_rfl, by kernel_rfl, by kernel_rfl, by kernel_rfl⟩
theorem teok126 : TEok Tryd.prog 126 te126 := te_of (some (.agg [.nilf])) (by kernel_rfl) (by kernel_rfl) ⟨by kernel_rfl, by kernel_rfl, by kernel_rfl, by kernel_rfl⟩
theorem teok127 : TEok Tryd.prog 127 te127 := te_of (some (.arrL [(.agg [.nilf]), (.agg [.nilf]), (.agg [.nilf])])) (by kernel_rfl) (by kernel_rfl) ⟨by kernel_rfl, by kernel_rfl, by kernel_rfl, by kernel_rfl⟩
theorem teok138 : TEok Tryd.prog 138 te138 := te_of (some .nilf) (by kernel_rfl) (by kernel_rfl) ⟨by kernel_rfl, by kernel_rfl, by kernel_rfl, by kernel_rfl⟩
theorem teok140 : TEok Tryd.prog 140 te140 := te_of (some .nilf) (by kernel_rfl) (by kernel_rfl) ⟨by kernel_rfl, by kernel_rfl, by kernel_rfl, by kernel_rfl⟩
theorem teok141 : TEok Tryd.prog 141 te141 := te_of (some .nilf) (by kernel_rfl) (by kernel_rfl) ⟨by kernel_rfl, by kernel_rfl, by kernel_rfl, by kernel_rfl⟩
theorem teok142 : TEok Tryd.prog 142 te142 := te_of (some .nilm) (by kernel_rfl) (by kernel_rfl) ⟨by kernel_rfl, by kernel_rfl, by kernel_rfl, by kernel_rfl⟩
theorem teok144 : TEok Tryd.prog 144 te144 := te_of (some (.agg [(.dat (.struct [(.slice (.struct [(.int .i64), (.int .i64)])), (.slice (.struct [(.int .i64), (.int .i64), (.struct [(.int .i64), (.int .i64)])])), (.struct [(.int .i64), (.int .i64)])])), (.dat (.int .i64)), .nilm])) (by kernel_rfl) (by kernel_rfl) ⟨by kernel_rfl, by kernel_rfl, by kernel_rfl, by kernel_rfl⟩
theorem teok148 : TEok Tryd.prog 148 te148 := te_of (some .nilp) (by kernel_rfl) (by kernel_rfl) ⟨by kernel_rfl, by kernel_rfl, by kernel_rfl, by kernel_rfl⟩
theorem teok153 : TEok Tryd.prog 153 te153 := te_of (some .nilf) (by kernel_rfl) (by kernel_rfl) ⟨by kernel_rfl, by kernel_rfl, by kernel_rfl, by kernel_rfl⟩
theorem te_all : ∀ x ∈ teL, TEok Tryd.prog x.1 x.2 := by
 simp only [teL, List.forall_mem_cons]
 exact ⟨teok3, teok4, teok5, teok9, teok22, teok23, teok25, teok27, teok28, teok29, teok35, teok43, teok53, teok66, teok67, teok70, teok74, teok77, teok80, teok81, teok83, teok85, teok87, teok89, teok90, teok94, teok100, teok103, teok105, teok117, teok118, teok126, teok127, teok138, teok140, teok141, teok142, teok144, teok148, teok153, fun _ h => absurd h List.not_mem_nil⟩
def names (P : Program) (l : List Nat) : Bool := l.all fun f => match P.funcs[f]? with | some fn => !(fn.name == "runtime.NumGoroutine") | none => true
theorem names_spec {P : Program} {l : List Nat} (h : names P l = true) {f : FuncId} {fn : Func} (hm : f ∈ l) (hf : P.funcs[f]? = some fn) : fn.name ≠ "runtime.NumGoroutine" := by
 unfold names at h
 rw [List.all_eq_true] at h
 have h2 := h f hm
 rw [hf] at h2
 simpa using h2
theorem names_ok : names Tryd.prog (List.range 135) = true := by kernel_rfl
theorem inls_le {f : Nat} (h : inls f = true) : f ∈ List.range 135 := by
 simp [inls] at h
 rw [List.mem_range]; omega
theorem inl_ok (f : FuncId) (fn : Func) (h : inls f = true) (hf : Tryd.prog.funcs[f]? = some fn) : fn.name ≠ "runtime.NumGoroutine" := names_spec names_ok (inls_le h) hf
theorem mixed_ok : Tryd.prog.follows .mixedOrders = true := by kernel_rfl
end Go.Proofs.YtkbephbhajplhaaDoor
/- The seat's context for the ghost machine is the program's. Conditions: none. -/
namespace Go.Proofs.YtkbephbhajplhaaDoor
open Go Go.Gh Go.Proofs
theorem map0 (i : Nat) (mm : Memo) (h : cx00.memo i = some mm) : MapOK cx00.P mm := by
 have h : memoC i = some mm := h
 unfold memoC at h
 cases hq : Nat.beq i 0 with
 | true =>
  rw [hq] at h
  cases h
  exact map_of 117 3 (by kernel_rfl) (by kernel_rfl) (by kernel_rfl) (by kernel_rfl) (by kernel_rfl) (by kernel_rfl) (by kernel_rfl) (by kernel_rfl)
 | false => rw [hq] at h; cases h
theorem globm0 (g id : Nat) : men id (globs g) = false := by
 unfold globs
 cases Nat.beq g 0 <;> rfl
theorem ok00 : CtxOK' cx00 :=
 { te := fun T te h => lookT_all te_all T te h, con := fun f c h => (by cases h), cst := fun f a h => (by cases h), map := map0, inl := inl_ok, mixed := mixed_ok, globm := globm0, sub := fun f c h => (by cases h) }
theorem fn_is {f : Nat} (hm : f ∈ List.range 135) (hb : ((Tryd.prog.funcs[f]?).bind (·.body)).isSome = true) : ∃ fn, Tryd.prog.funcs[f]? = some fn ∧ fn.name ≠ "runtime.NumGoroutine" ∧ fn.body.isNone = false := by
 cases h : Tryd.prog.funcs[f]? with
 | none => rw [h] at hb; cases hb
 | some fn =>
  rw [h] at hb
  refine ⟨fn, rfl, names_spec names_ok hm h, ?_⟩
  simpa using hb
theorem sights_body : ∃ c, Tryd.f103.body = some c ∧ exec cx00 (fun _ => false) outK 500 (entryCf 103 Tryd.f103.ntmps c [] ()) = some sightsA := ⟨_, rfl, by kernel_rfl⟩
theorem ok0 : CtxOK' cx0 := by
 obtain ⟨c, h1, h2⟩ := sights_body
 exact CtxOK'.addC ok00 (cst_of ok00 (by kernel_rfl) h1 500 h2 rfl) (fn_is (List.mem_range.2 (by decide)) (by kernel_rfl))
end Go.Proofs.YtkbephbhajplhaaDoor
