/- The seat's context for the ghost machine: the table of its types. Conditions: none (definitions alone). -/
import Derived.Test.YtkhhbpocmmmnmaaGhG
import Derived.Test.YtkhhbpocmmmnmaaProg
namespace Go.Proofs.Ytkhhbpocmmmnmaa
open Go Go.Gh
def te3 : TE := ⟨1, false, (.int .i64), (some (.int .i64)), true, (some (.dat (.int .i64) (dflt (.int .i64))))⟩
def te4 : TE := ⟨1, false, .other, (some .bool), true, (some (.dat .bool (dflt .bool)))⟩
def te5 : TE := ⟨1, false, (.int .u8), (some (.int .u8)), true, (some (.dat (.int .u8) (dflt (.int .u8))))⟩
def te9 : TE := ⟨1, false, .other, (some .str), true, (some (.dat .str (dflt .str)))⟩
def te22 : TE := ⟨1, false, (.slice 32 2), (some (.slice (.struct [(.int .i64), (.int .i64)]))), false, (some .nilsl)⟩
def te23 : TE := ⟨1, false, (.slice 62 3), (some (.slice (.struct [(.int .i64), (.int .i64), (.int .i64)]))), false, (some .nilsl)⟩
def te24 : TE := ⟨1, false, (.slice 50 3), (some (.slice (.struct [(.int .i64), (.int .i64), .bool]))), false, (some .nilsl)⟩
def te26 : TE := ⟨4, true, (.struct [0, 1, 2, 3] [1, 1, 1, 1]), (some (.struct [(.slice (.struct [(.int .i64), (.int .i64)])), (.int .i64), (.slice (.struct [(.int .i64), (.int .i64), (.int .i64)])), (.slice (.struct [(.int .i64), (.int .i64), .bool]))])), false, (some (.dat (.struct [(.slice (.struct [(.int .i64), (.int .i64)])), (.int .i64), (.slice (.struct [(.int .i64), (.int .i64), (.int .i64)])), (.slice (.struct [(.int .i64), (.int .i64), .bool]))]) (dflt (.struct [(.slice (.struct [(.int .i64), (.int .i64)])), (.int .i64), (.slice (.struct [(.int .i64), (.int .i64), (.int .i64)])), (.slice (.struct [(.int .i64), (.int .i64), .bool]))]))))⟩
def te27 : TE := ⟨3, true, (.array 3 3 1), (some (.arr 3 (.int .i64))), true, (some (.dat (.arr 3 (.int .i64)) (dflt (.arr 3 (.int .i64)))))⟩
def te28 : TE := ⟨1, false, (.int .i64), (some (.int .i64)), true, (some (.dat (.int .i64) (dflt (.int .i64))))⟩
def te32 : TE := ⟨2, true, (.struct [0, 1] [1, 1]), (some (.struct [(.int .i64), (.int .i64)])), true, (some (.dat (.struct [(.int .i64), (.int .i64)]) (dflt (.struct [(.int .i64), (.int .i64)]))))⟩
def te40 : TE := ⟨1, false, (.slice 3 1), (some (.slice (.int .i64))), false, (some .nilsl)⟩
def te45 : TE := ⟨2, true, (.array 2 3 1), (some (.arr 2 (.int .i64))), true, (some (.dat (.arr 2 (.int .i64)) (dflt (.arr 2 (.int .i64)))))⟩
def te50 : TE := ⟨3, true, (.struct [0, 1, 2] [1, 1, 1]), (some (.struct [(.int .i64), (.int .i64), .bool])), true, (some (.dat (.struct [(.int .i64), (.int .i64), .bool]) (dflt (.struct [(.int .i64), (.int .i64), .bool]))))⟩
def te53 : TE := ⟨1, false, (.int .u16), (some (.int .u16)), true, (some (.dat (.int .u16) (dflt (.int .u16))))⟩
def te55 : TE := ⟨2, true, (.struct [0, 1] [1, 1]), (some (.struct [(.slice (.int .i64)), (.slice (.int .i64))])), false, (some (.dat (.struct [(.slice (.int .i64)), (.slice (.int .i64))]) (dflt (.struct [(.slice (.int .i64)), (.slice (.int .i64))]))))⟩
def te62 : TE := ⟨3, true, (.struct [0, 1, 2] [1, 1, 1]), (some (.struct [(.int .i64), (.int .i64), (.int .i64)])), true, (some (.dat (.struct [(.int .i64), (.int .i64), (.int .i64)]) (dflt (.struct [(.int .i64), (.int .i64), (.int .i64)]))))⟩
def te64 : TE := ⟨1, false, .other, none, false, (some .nilf)⟩
def te66 : TE := ⟨1, false, (.slice 55 2), (some (.slice (.struct [(.slice (.int .i64)), (.slice (.int .i64))]))), false, (some .nilsl)⟩
def te69 : TE := ⟨3, true, (.array 3 5 1), (some (.arr 3 (.int .u8))), true, (some (.dat (.arr 3 (.int .u8)) (dflt (.arr 3 (.int .u8)))))⟩
def te71 : TE := ⟨1, false, .other, none, false, (some .nilf)⟩
def te77 : TE := ⟨2, true, (.array 2 5 1), (some (.arr 2 (.int .u8))), true, (some (.dat (.arr 2 (.int .u8)) (dflt (.arr 2 (.int .u8)))))⟩
def te82 : TE := ⟨9, true, (.struct [0, 4, 5, 6, 7, 8] [4, 1, 1, 1, 1, 1]), (some (.struct [(.struct [(.slice (.struct [(.int .i64), (.int .i64)])), (.int .i64), (.slice (.struct [(.int .i64), (.int .i64), (.int .i64)])), (.slice (.struct [(.int .i64), (.int .i64), .bool]))]), (.int .i64), (.int .i64), (.int .i64), (.int .i64), (.int .i64)])), false, (some (.dat (.struct [(.struct [(.slice (.struct [(.int .i64), (.int .i64)])), (.int .i64), (.slice (.struct [(.int .i64), (.int .i64), (.int .i64)])), (.slice (.struct [(.int .i64), (.int .i64), .bool]))]), (.int .i64), (.int .i64), (.int .i64), (.int .i64), (.int .i64)]) (dflt (.struct [(.struct [(.slice (.struct [(.int .i64), (.int .i64)])), (.int .i64), (.slice (.struct [(.int .i64), (.int .i64), (.int .i64)])), (.slice (.struct [(.int .i64), (.int .i64), .bool]))]), (.int .i64), (.int .i64), (.int .i64), (.int .i64), (.int .i64)]))))⟩
def te83 : TE := ⟨1, false, (.slice 9 1), (some (.slice .str)), false, (some .nilsl)⟩
def te85 : TE := ⟨2, true, (.struct [0, 1] [1, 1]), (some (.struct [(.slice (.int .i64)), (.slice .str)])), false, (some (.agg [.nilsl, .nilsl]))⟩
def te87 : TE := ⟨1, false, .other, none, false, (some .nilp)⟩
def te89 : TE := ⟨1, false, .other, none, false, (some .nilf)⟩
def te91 : TE := ⟨1, false, .other, none, false, (some .nilf)⟩
def te92 : TE := ⟨1, false, .other, none, false, (some .nilf)⟩
def te95 : TE := ⟨1, false, .other, none, false, (some .nilp)⟩
def te100 : TE := ⟨1, false, .other, none, false, (some .nilf)⟩
def te102 : TE := ⟨1, false, .other, none, false, (some .nilf)⟩
def te104 : TE := ⟨1, false, .other, none, false, (some .nilf)⟩
def te106 : TE := ⟨1, false, .other, (some (.hnd 0 (.struct [(.struct [(.slice (.struct [(.int .i64), (.int .i64)])), (.int .i64), (.slice (.struct [(.int .i64), (.int .i64), (.int .i64)])), (.slice (.struct [(.int .i64), (.int .i64), .bool]))]), (.int .i64)]))), false, (some .nilp)⟩
def te110 : TE := ⟨2, true, (.struct [0, 1] [1, 1]), (some (.struct [.bool, (.int .i64)])), true, (some (.dat (.struct [.bool, (.int .i64)]) (dflt (.struct [.bool, (.int .i64)]))))⟩
def te113 : TE := ⟨3, true, (.array 3 3 1), (some (.arr 3 (.int .i64))), true, (some (.dat (.arr 3 (.int .i64)) (dflt (.arr 3 (.int .i64)))))⟩
def te115 : TE := ⟨5, true, (.array 5 3 1), (some (.arr 5 (.int .i64))), true, (some (.dat (.arr 5 (.int .i64)) (dflt (.arr 5 (.int .i64)))))⟩
def te116 : TE := ⟨1, false, .other, none, false, (some .nilf)⟩
def te122 : TE := ⟨1, false, .other, none, false, (some .nilf)⟩
def te124 : TE := ⟨1, true, (.struct [0] [1]), none, false, (some (.agg [.nilf]))⟩
def te134 : TE := ⟨1, false, (.slice 40 1), (some (.slice (.slice (.int .i64)))), false, (some .nilsl)⟩
def te143 : TE := ⟨1, false, .other, none, false, (some .nilf)⟩
def te144 : TE := ⟨1, false, (.slice 110 2), (some (.slice (.struct [.bool, (.int .i64)]))), false, (some .nilsl)⟩
def te146 : TE := ⟨3, true, (.struct [0, 2] [2, 1]), (some (.struct [(.struct [(.int .i64), (.int .i64)]), .bool])), true, (some (.dat (.struct [(.struct [(.int .i64), (.int .i64)]), .bool]) (dflt (.struct [(.struct [(.int .i64), (.int .i64)]), .bool]))))⟩
def te148 : TE := ⟨1, false, .other, none, false, (some .nilm)⟩
def te150 : TE := ⟨6, true, (.struct [0, 4, 5] [4, 1, 1]), none, false, (some (.agg [(.dat (.struct [(.slice (.struct [(.int .i64), (.int .i64)])), (.int .i64), (.slice (.struct [(.int .i64), (.int .i64), (.int .i64)])), (.slice (.struct [(.int .i64), (.int .i64), .bool]))]) (dflt (.struct [(.slice (.struct [(.int .i64), (.int .i64)])), (.int .i64), (.slice (.struct [(.int .i64), (.int .i64), (.int .i64)])), (.slice (.struct [(.int .i64), (.int .i64), .bool]))]))), (.dat (.int .i64) (dflt (.int .i64))), .nilm]))⟩
def te151 : TE := ⟨1, false, .other, none, false, (some .nilf)⟩
def te155 : TE := ⟨5, true, (.array 5 3 1), (some (.arr 5 (.int .i64))), true, (some (.dat (.arr 5 (.int .i64)) (dflt (.arr 5 (.int .i64)))))⟩
def te162 : TE := ⟨1, false, .other, none, false, (some .nilp)⟩
def te164 : TE := ⟨1, false, .other, none, false, (some .nilf)⟩
def te168 : TE := ⟨1, false, .other, none, false, (some .nilf)⟩
def te170 : TE := ⟨1, false, .other, none, false, (some .nilf)⟩
def teL : List (Nat × TE) := [(3, te3), (4, te4), (5, te5), (9, te9), (22, te22), (23, te23), (24, te24), (26, te26), (27, te27), (28, te28), (32, te32), (40, te40), (45, te45), (50, te50), (53, te53), (55, te55), (62, te62), (64, te64), (66, te66), (69, te69), (71, te71), (77, te77), (82, te82), (83, te83), (85, te85), (87, te87), (89, te89), (91, te91), (92, te92), (95, te95), (100, te100), (102, te102), (104, te104), (106, te106), (110, te110), (113, te113), (115, te115), (116, te116), (122, te122), (124, te124), (134, te134), (143, te143), (144, te144), (146, te146), (148, te148), (150, te150), (151, te151), (155, te155), (162, te162), (164, te164), (168, te168), (170, te170)]
def globs (_ : Nat) : AV := .any
def inls (f : Nat) : Bool := Nat.ble 3 f && Nat.ble f 141
noncomputable def cxOf (con : FuncId → Option Con) (memo : Nat → Option Memo) : Ctx := { P := Go.Proofs.Try.prog, te := lookT teL, con, memo, glob := globs, inl := inls }
end Go.Proofs.Ytkhhbpocmmmnmaa
/- The seat's context for the ghost machine: its types are those of the program. Conditions: none. -/
namespace Go.Proofs.Ytkhhbpocmmmnmaa
open Go Go.Gh Go.Proofs
theorem teok3 : TEok Try.prog 3 te3 := te_of (some (.dat (.int .i64))) (by kernel_rfl) (by kernel_rfl) ⟨by kernel_rfl, by kernel_rfl, by kernel_rfl, by kernel_rfl⟩
theorem teok4 : TEok Try.prog 4 te4 := te_of (some (.dat .bool)) (by kernel_rfl) (by kernel_rfl) ⟨by kernel_rfl, by kernel_rfl, by kernel_rfl, by kernel_rfl⟩
theorem teok5 : TEok Try.prog 5 te5 := te_of (some (.dat (.int .u8))) (by kernel_rfl) (by kernel_rfl) ⟨by kernel_rfl, by kernel_rfl, by kernel_rfl, by kernel_rfl⟩
theorem teok9 : TEok Try.prog 9 te9 := te_of (some (.dat .str)) (by kernel_rfl) (by kernel_rfl) ⟨by kernel_rfl, by kernel_rfl, by kernel_rfl, by kernel_rfl⟩
theorem teok22 : TEok Try.prog 22 te22 := te_of (some .nilsl) (by kernel_rfl) (by kernel_rfl) ⟨by kernel_rfl, by kernel_rfl, by kernel_rfl, by kernel_rfl⟩
theorem teok23 : TEok Try.prog 23 te23 := te_of (some .nilsl) (by kernel_rfl) (by kernel_rfl) ⟨by kernel_rfl, by kernel_rfl, by kernel_rfl, by kernel_rfl⟩
theorem teok24 : TEok Try.prog 24 te24 := te_of (some .nilsl) (by kernel_rfl) (by kernel_rfl) ⟨by kernel_rfl, by kernel_rfl, by kernel_rfl, by kernel_rfl⟩
theorem teok26 : TEok Try.prog 26 te26 := te_of (some (.dat (.struct [(.slice (.struct [(.int .i64), (.int .i64)])), (.int .i64), (.slice (.struct [(.int .i64), (.int .i64), (.int .i64)])), (.slice (.struct [(.int .i64), (.int .i64), .bool]))]))) (by kernel_rfl) (by kernel_rfl) ⟨by kernel_rfl, by kernel_rfl, by kernel_rfl, by kernel_rfl⟩
theorem teok27 : TEok Try.prog 27 te27 := te_of (some (.dat (.arr 3 (.int .i64)))) (by kernel_rfl) (by kernel_rfl) ⟨by kernel_rfl, by kernel_rfl, by kernel_rfl, by kernel_rfl⟩
theorem teok28 : TEok Try.prog 28 te28 := te_of (some (.dat (.int .i64))) (by kernel_rfl) (by kernel_rfl) ⟨by kernel_rfl, by kernel_rfl, by kernel_rfl, by kernel_rfl⟩
theorem teok32 : TEok Try.prog 32 te32 := te_of (some (.dat (.struct [(.int .i64), (.int .i64)]))) (by kernel_rfl) (by kernel_rfl) ⟨by kernel_rfl, by kernel_rfl, by kernel_rfl, by kernel_rfl⟩
theorem teok40 : TEok Try.prog 40 te40 := te_of (some .nilsl) (by kernel_rfl) (by kernel_rfl) ⟨by kernel_rfl, by kernel_rfl, by kernel_rfl, by kernel_rfl⟩
theorem teok45 : TEok Try.prog 45 te45 := te_of (some (.dat (.arr 2 (.int .i64)))) (by kernel_rfl) (by kernel_rfl) ⟨by kernel_rfl, by kernel_rfl, by kernel_rfl, by kernel_rfl⟩
theorem teok50 : TEok Try.prog 50 te50 := te_of (some (.dat (.struct [(.int .i64), (.int .i64), .bool]))) (by kernel_rfl) (by kernel_rfl) ⟨by kernel_rfl, by kernel_rfl, by kernel_rfl, by kernel_rfl⟩
theorem teok53 : TEok Try.prog 53 te53 := te_of (some (.dat (.int .u16))) (by kernel_rfl) (by kernel_rfl) ⟨by kernel_rfl, by kernel_rfl, by kernel_rfl, by kernel_rfl⟩
theorem teok55 : TEok Try.prog 55 te55 := te_of (some (.dat (.struct [(.slice (.int .i64)), (.slice (.int .i64))]))) (by kernel_rfl) (by kernel_rfl) ⟨by kernel_rfl, by kernel_rfl, by kernel_rfl, by kernel_rfl⟩
theorem teok62 : TEok Try.prog 62 te62 := te_of (some (.dat (.struct [(.int .i64), (.int .i64), (.int .i64)]))) (by kernel_rfl) (by kernel_rfl) ⟨by kernel_rfl, by kernel_rfl, by kernel_rfl, by kernel_rfl⟩
theorem teok64 : TEok Try.prog 64 te64 := te_of (some .nilf) (by kernel_rfl) (by kernel_rfl) ⟨by kernel_rfl, by kernel_rfl, by kernel_rfl, by kernel_rfl⟩
theorem teok66 : TEok Try.prog 66 te66 := te_of (some .nilsl) (by kernel_rfl) (by kernel_rfl) ⟨by kernel_rfl, by kernel_rfl, by kernel_rfl, by kernel_rfl⟩
theorem teok69 : TEok Try.prog 69 te69 := te_of (some (.dat (.arr 3 (.int .u8)))) (by kernel_rfl) (by kernel_rfl) ⟨by kernel_rfl, by kernel_rfl, by kernel_rfl, by kernel_rfl⟩
theorem teok71 : TEok Try.prog 71 te71 := te_of (some .nilf) (by kernel_rfl) (by kernel_rfl) ⟨by kernel_rfl, by kernel_rfl, by kernel_rfl, by kernel_rfl⟩
theorem teok77 : TEok Try.prog 77 te77 := te_of (some (.dat (.arr 2 (.int .u8)))) (by kernel_rfl) (by kernel_rfl) ⟨by kernel_rfl, by kernel_rfl, by kernel_rfl, by kernel_rfl⟩
theorem teok82 : TEok Try.prog 82 te82 := te_of (some (.dat (.struct [(.struct [(.slice (.struct [(.int .i64), (.int .i64)])), (.int .i64), (.slice (.struct [(.int .i64), (.int .i64), (.int .i64)])), (.slice (.struct [(.int .i64), (.int .i64), .bool]))]), (.int .i64), (.int .i64), (.int .i64), (.int .i64), (.int .i64)]))) (by kernel_rfl) (by kernel_rfl) ⟨by kernel_rfl, by kernel_rfl, by kernel_rfl, by kernel_rfl⟩
theorem teok83 : TEok Try.prog 83 te83 := te_of (some .nilsl) (by kernel_rfl) (by kernel_rfl) ⟨by kernel_rfl, by kernel_rfl, by kernel_rfl, by kernel_rfl⟩
theorem teok85 : TEok Try.prog 85 te85 := te_of (some (.agg [.nilsl, .nilsl])) (by kernel_rfl) (by kernel_rfl) ⟨by kernel_rfl, by kernel_rfl, by kernel_rfl, by kernel_rfl⟩
theorem teok87 : TEok Try.prog 87 te87 := te_of (some .nilp) (by kernel_rfl) (by kernel_rfl) ⟨by kernel_rfl, by kernel_rfl, by kernel_rfl, by kernel_rfl⟩
theorem teok89 : TEok Try.prog 89 te89 := te_of (some .nilf) (by kernel_rfl) (by kernel_rfl) ⟨by kernel_rfl, by kernel_rfl, by kernel_rfl, by kernel_rfl⟩
theorem teok91 : TEok Try.prog 91 te91 := te_of (some .nilf) (by kernel_rfl) (by kernel_rfl) ⟨by kernel_rfl, by kernel_rfl, by kernel_rfl, by kernel_rfl⟩
theorem teok92 : TEok Try.prog 92 te92 := te_of (some .nilf) (by kernel_rfl) (by kernel_rfl) ⟨by kernel_rfl, by kernel_rfl, by kernel_rfl, by kernel_rfl⟩
theorem teok95 : TEok Try.prog 95 te95 := te_of (some .nilp) (by kernel_rfl) (by kernel_rfl) ⟨by kernel_rfl, by kernel_rfl, by kernel_rfl, by kernel_rfl⟩
theorem teok100 : TEok Try.prog 100 te100 := te_of (some .nilf) (by kernel_rfl) (by kernel_rfl) ⟨by kernel_rfl, by kernel_rfl, by kernel_rfl, by kernel_rfl⟩
theorem teok102 : TEok Try.prog 102 te102 := te_of (some .nilf) (by kernel_rfl) (by kernel_rfl) ⟨by kernel_rfl, by kernel_rfl, by kernel_rfl, by kernel_rfl⟩
theorem teok104 : TEok Try.prog 104 te104 := te_of (some .nilf) (by kernel_rfl) (by kernel_rfl) ⟨by kernel_rfl, by kernel_rfl, by kernel_rfl, by kernel_rfl⟩
theorem teok106 : TEok Try.prog 106 te106 := te_of (some .nilp) (by kernel_rfl) (by kernel_rfl) ⟨by kernel_rfl, by kernel_rfl, by kernel_rfl, by kernel_rfl⟩
theorem teok110 : TEok Try.prog 110 te110 := te_of (some (.dat (.struct [.bool, (.int .i64)]))) (by kernel_rfl) (by kernel_rfl) ⟨by kernel_rfl, by kernel_rfl, by kernel_rfl, by kernel_rfl⟩
theorem teok113 : TEok Try.prog 113 te113 := te_of (some (.dat (.arr 3 (.int .i64)))) (by kernel_rfl) (by kernel_rfl) ⟨by kernel_rfl, by kernel_rfl, by kernel_rfl, by kernel_rfl⟩
theorem teok115 : TEok Try.prog 115 te115 := te_of (some (.dat (.arr 5 (.int .i64)))) (by kernel_rfl) (by kernel_rfl) ⟨by kernel_rfl, by kernel_rfl, by kernel_rfl, by kernel_rfl⟩
theorem teok116 : TEok Try.prog 116 te116 := te_of (some .nilf) (by kernel_rfl) (by kernel_rfl) ⟨by kernel_rfl, by kernel_rfl, by kernel_rfl, by kernel_rfl⟩
theorem teok122 : TEok Try.prog 122 te122 := te_of (some .nilf) (by kernel_rfl) (by kernel_rfl) ⟨by kernel_rfl, by kernel_rfl, by kernel_rfl, by kernel_rfl⟩
theorem teok124 : TEok Try.prog 124 te124 := te_of (some (.agg [.nilf])) (by kernel_rfl) (by kernel_rfl) ⟨by kernel_rfl, by kernel_rfl, by kernel_rfl, by kernel_rfl⟩
theorem teok134 : TEok Try.prog 134 te134 := te_of (some .nilsl) (by kernel_rfl) (by kernel_rfl) ⟨by kernel_rfl, by kernel_rfl, by kernel_rfl, by kernel_rfl⟩
theorem teok143 : TEok Try.prog 143 te143 := te_of (some .nilf) (by kernel_rfl) (by kernel_rfl) ⟨by kernel_rfl, by kernel_rfl, by kernel_rfl, by kernel_rfl⟩
theorem teok144 : TEok Try.prog 144 te144 := te_of (some .nilsl) (by kernel_rfl) (by kernel_rfl) ⟨by kernel_rfl, by kernel_rfl, by kernel_rfl, by kernel_rfl⟩
theorem teok146 : TEok Try.prog 146 te146 := te_of (some (.dat (.struct [(.struct [(.int .i64), (.int .i64)]), .bool]))) (by kernel_rfl) (by kernel_rfl) ⟨by kernel_rfl, by kernel_rfl, by kernel_rfl, by kernel_rfl⟩
theorem teok148 : TEok Try.prog 148 te148 := te_of (some .nilm) (by kernel_rfl) (by kernel_rfl) ⟨by kernel_rfl, by kernel_rfl, by kernel_rfl, by kernel_rfl⟩
theorem teok150 : TEok Try.prog 150 te150 := te_of (some (.agg [(.dat (.struct [(.slice (.struct [(.int .i64), (.int .i64)])), (.int .i64), (.slice (.struct [(.int .i64), (.int .i64), (.int .i64)])), (.slice (.struct [(.int .i64), (.int .i64), .bool]))])), (.dat (.int .i64)), .nilm])) (by kernel_rfl) (by kernel_rfl) ⟨by kernel_rfl, by kernel_rfl, by kernel_rfl, by kernel_rfl⟩
theorem teok151 : TEok Try.prog 151 te151 := te_of (some .nilf) (by kernel_rfl) (by kernel_rfl) ⟨by kernel_rfl, by kernel_rfl, by kernel_rfl, by kernel_rfl⟩
theorem teok155 : TEok Try.prog 155 te155 := te_of (some (.dat (.arr 5 (.int .i64)))) (by kernel_rfl) (by kernel_rfl) ⟨by kernel_rfl, by kernel_rfl, by kernel_rfl, by kernel_rfl⟩
theorem teok162 : TEok Try.prog 162 te162 := te_of (some .nilp) (by kernel_rfl) (by kernel_rfl) ⟨by kernel_rfl, by kernel_rfl, by kernel_rfl, by kernel_rfl⟩
theorem teok164 : TEok Try.prog 164 te164 := te_of (some .nilf) (by kernel_rfl) (by kernel_rfl) ⟨by kernel_rfl, by kernel_rfl, by kernel_rfl, by kernel_rfl⟩
theorem teok168 : TEok Try.prog 168 te168 := te_of (some .nilf) (by kernel_rfl) (by kernel_rfl) ⟨by kernel_rfl, by kernel_rfl, by kernel_rfl, by kernel_rfl⟩
theorem teok170 : TEok Try.prog 170 te170 := te_of (some .nilf) (by kernel_rfl) (by kernel_rfl) ⟨by kernel_rfl, by kernel_rfl, by kernel_rfl, by kernel_rfl⟩
theorem te_all : ∀ x ∈ teL, TEok Try.prog x.1 x.2 := by
 simp only [teL, List.forall_mem_cons]
 exact ⟨teok3, teok4, teok5, teok9, teok22, teok23, teok24, teok26, teok27, teok28, teok32, teok40, teok45, teok50, teok53, teok55, teok62, teok64, teok66, teok69, teok71, teok77, teok82, teok83, teok85, teok87, teok89, teok91, teok92, teok95, teok100, teok102, teok104, teok106, teok110, teok113, teok115, teok116, teok122, teok124, teok134, teok143, teok144, teok146, teok148, teok150, teok151, teok155, teok162, teok164, teok168, teok170, fun _ h => absurd h List.not_mem_nil⟩
def names (P : Program) (l : List Nat) : Bool := l.all fun f => match P.funcs[f]? with | some fn => !(fn.name == "runtime.NumGoroutine") | none => true
theorem names_spec {P : Program} {l : List Nat} (h : names P l = true) {f : FuncId} {fn : Func} (hm : f ∈ l) (hf : P.funcs[f]? = some fn) : fn.name ≠ "runtime.NumGoroutine" := by
 unfold names at h
 rw [List.all_eq_true] at h
 have h2 := h f hm
 rw [hf] at h2
 simpa using h2
theorem names_ok : names Try.prog (List.range 142) = true := by kernel_rfl
theorem inls_le {f : Nat} (h : inls f = true) : f ∈ List.range 142 := by
 simp [inls] at h
 rw [List.mem_range]; omega
theorem inl_ok (f : FuncId) (fn : Func) (h : inls f = true) (hf : Try.prog.funcs[f]? = some fn) : fn.name ≠ "runtime.NumGoroutine" := names_spec names_ok (inls_le h) hf
theorem mixed_ok : Try.prog.follows .mixedOrders = true := by kernel_rfl
end Go.Proofs.Ytkhhbpocmmmnmaa
/- Pairs of things seen that can be the same, by the rates of belts, as the program comes to them. Conditions: none (definitions alone). -/
namespace Go.Proofs.Ytkhhbpocmmmnmaa
open Go Go.Gh Go.Proofs
abbrev Sp := Int × Int × Unit
abbrev Sn := Int × Int × Int × Unit
abbrev Tl := Int × Int × Bool × Unit
abbrev Su := List Sp × Int × List Sn × List Tl × Unit
def sp0 : Sp := (0, 0, ())
def sn0 : Sn := (0, 0, 0, ())
def tl0 : Tl := (0, 0, false, ())
abbrev tSp : Ty := .struct [.int .i64, .int .i64]
abbrev tSn : Ty := .struct [.int .i64, .int .i64, .int .i64]
abbrev tTl : Ty := .struct [.int .i64, .int .i64, .bool]
abbrev tSu : Ty := .struct [.slice tSp, .int .i64, .slice tSn, .slice tTl]
def placeP (x : Sn) (r : List Int) (day : Int) : Int := x.2.2.1 + r.getD x.2.1.toNat 0 * (day - x.1)
def farP (n most : Int) : Bool := decide (2 * most < (n + most) % 360)
def canP (s : Su) (r : List Int) (a b : Nat) : Bool :=
 (s.2.2.1.getD a sn0).2.1 == (s.2.2.1.getD b sn0).2.1 && (s.2.2.1.getD a sn0).1 != (s.2.2.1.getD b sn0).1 && !farP (placeP (s.2.2.1.getD a sn0) r (s.2.2.1.getD b sn0).1 - (s.2.2.1.getD b sn0).2.2.1) s.2.1
def bitsP (p : Nat → Bool) : Nat → Nat
 | 0 => 0
 | n + 1 => bitsP p n + (if p n = true then 2 ^ n else 0)
def pairsP (s : Su) (r : List Int) : List Int := (List.range 5).map fun a => if a < s.2.2.1.length then ((bitsP (canP s r a) s.2.2.1.length : Nat) : Int) else 0
def pairsF (m : denL [tSu, .int .i64]) (r : den (.arr 3 (.int .i64))) : Option (den (.arr 5 (.int .i64))) := some (pairsP (m : Su × Int × Unit).1 r)
def memoC (i : Nat) : Option Memo := cond (Nat.beq i 0) (some { T := 150, ts := [tSu, .int .i64], M := 148, key := .arr 3 (.int .i64), val := .arr 5 (.int .i64), f := pairsF }) none
noncomputable def cx0 : Ctx := cxOf (fun _ => none) memoC
end Go.Proofs.Ytkhhbpocmmmnmaa
/- The seat's context for the ghost machine is the program's. Conditions: none. -/
namespace Go.Proofs.Ytkhhbpocmmmnmaa
open Go Go.Gh Go.Proofs
theorem map0 (i : Nat) (mm : Memo) (h : cx0.memo i = some mm) : MapOK cx0.P mm := by
 have h : memoC i = some mm := h
 unfold memoC at h
 cases hq : Nat.beq i 0 with
 | true =>
  rw [hq] at h
  cases h
  exact map_of 113 155 (by kernel_rfl) (by kernel_rfl) (by kernel_rfl) (by kernel_rfl) (by kernel_rfl) (by kernel_rfl) (by kernel_rfl) (by kernel_rfl)
 | false => rw [hq] at h; cases h
theorem globm0 (g id : Nat) : men id (globs g) = false := rfl
theorem ok0 : CtxOK' cx0 :=
 { te := fun T te h => lookT_all te_all T te h, con := fun f c h => (by cases h), cst := fun f a h => (by cases h), map := map0, inl := inl_ok, mixed := mixed_ok, globm := globm0, sub := fun f c h => (by cases h) }
theorem fn_is {f : Nat} (hm : f ∈ List.range 142) (hb : ((Try.prog.funcs[f]?).bind (·.body)).isSome = true) : ∃ fn, Try.prog.funcs[f]? = some fn ∧ fn.name ≠ "runtime.NumGoroutine" ∧ fn.body.isNone = false := by
 cases h : Try.prog.funcs[f]? with
 | none => rw [h] at hb; cases hb
 | some fn =>
  rw [h] at hb
  refine ⟨fn, rfl, names_spec names_ok hm h, ?_⟩
  simpa using hb
end Go.Proofs.Ytkhhbpocmmmnmaa
