/- The seat's context for the ghost machine: the table of its types. Conditions: none (definitions alone). -/
import Derived.Test.YtallblpnlefpeaaGhG
import Derived.Test.YtallblpnlefpeaaProg
namespace Go.Proofs.Ytallblpnlefpeaa
open Go Go.Gh
def te3 : TE := ⟨1, false, (.int .i64), (some (.int .i64)), true, (some (.dat (.int .i64) (dflt (.int .i64))))⟩
def te4 : TE := ⟨1, false, .other, (some .bool), true, (some (.dat .bool (dflt .bool)))⟩
def te5 : TE := ⟨1, false, (.int .u8), (some (.int .u8)), true, (some (.dat (.int .u8) (dflt (.int .u8))))⟩
def te9 : TE := ⟨1, false, .other, (some .str), true, (some (.dat .str (dflt .str)))⟩
def te22 : TE := ⟨1, false, (.slice 45 2), (some (.slice (.struct [(.int .i64), .bool]))), false, (some .nilsl)⟩
def te23 : TE := ⟨1, false, (.slice 61 1), (some (.slice (.slice (.struct [(.int .i64), (.int .i64), (.int .i64)])))), false, (some .nilsl)⟩
def te25 : TE := ⟨2, true, (.struct [0, 1] [1, 1]), (some (.struct [(.slice (.struct [(.int .i64), .bool])), (.slice (.slice (.struct [(.int .i64), (.int .i64), (.int .i64)])))])), false, (some (.dat (.struct [(.slice (.struct [(.int .i64), .bool])), (.slice (.slice (.struct [(.int .i64), (.int .i64), (.int .i64)])))]) (dflt (.struct [(.slice (.struct [(.int .i64), .bool])), (.slice (.slice (.struct [(.int .i64), (.int .i64), (.int .i64)])))]))))⟩
def te26 : TE := ⟨1, false, (.int .i64), (some (.int .i64)), true, (some (.dat (.int .i64) (dflt (.int .i64))))⟩
def te35 : TE := ⟨1, false, (.slice 3 1), (some (.slice (.int .i64))), false, (some .nilsl)⟩
def te41 : TE := ⟨1, false, (.slice 5 1), (some (.slice (.int .u8))), false, (some .nilsl)⟩
def te43 : TE := ⟨1, false, .other, none, false, (some .nilf)⟩
def te45 : TE := ⟨2, true, (.struct [0, 1] [1, 1]), (some (.struct [(.int .i64), .bool])), true, (some (.dat (.struct [(.int .i64), .bool]) (dflt (.struct [(.int .i64), .bool]))))⟩
def te46 : TE := ⟨1, false, (.slice 4 1), (some (.slice .bool)), false, (some .nilsl)⟩
def te53 : TE := ⟨2, true, (.struct [0, 1] [1, 1]), (some (.struct [.bool, (.int .i64)])), true, (some (.dat (.struct [.bool, (.int .i64)]) (dflt (.struct [.bool, (.int .i64)]))))⟩
def te54 : TE := ⟨1, false, (.slice 53 2), (some (.slice (.struct [.bool, (.int .i64)]))), false, (some .nilsl)⟩
def te61 : TE := ⟨1, false, (.slice 64 3), (some (.slice (.struct [(.int .i64), (.int .i64), (.int .i64)]))), false, (some .nilsl)⟩
def te64 : TE := ⟨3, true, (.struct [0, 1, 2] [1, 1, 1]), (some (.struct [(.int .i64), (.int .i64), (.int .i64)])), true, (some (.dat (.struct [(.int .i64), (.int .i64), (.int .i64)]) (dflt (.struct [(.int .i64), (.int .i64), (.int .i64)]))))⟩
def te66 : TE := ⟨4, true, (.struct [0, 2, 3] [2, 1, 1]), (some (.struct [(.struct [(.slice (.struct [(.int .i64), .bool])), (.slice (.slice (.struct [(.int .i64), (.int .i64), (.int .i64)])))]), (.int .i64), (.int .i64)])), false, (some (.dat (.struct [(.struct [(.slice (.struct [(.int .i64), .bool])), (.slice (.slice (.struct [(.int .i64), (.int .i64), (.int .i64)])))]), (.int .i64), (.int .i64)]) (dflt (.struct [(.struct [(.slice (.struct [(.int .i64), .bool])), (.slice (.slice (.struct [(.int .i64), (.int .i64), (.int .i64)])))]), (.int .i64), (.int .i64)]))))⟩
def te67 : TE := ⟨1, false, (.slice 9 1), (some (.slice .str)), false, (some .nilsl)⟩
def te69 : TE := ⟨2, true, (.struct [0, 1] [1, 1]), (some (.struct [(.slice (.int .i64)), (.slice .str)])), false, (some (.agg [.nilsl, .nilsl]))⟩
def te71 : TE := ⟨1, false, .other, none, false, (some .nilp)⟩
def te73 : TE := ⟨1, false, .other, none, false, (some .nilf)⟩
def te75 : TE := ⟨1, false, .other, none, false, (some .nilf)⟩
def te78 : TE := ⟨1, false, .other, none, false, (some .nilp)⟩
def te83 : TE := ⟨1, false, .other, none, false, (some .nilf)⟩
def te86 : TE := ⟨1, false, .other, none, false, (some .nilf)⟩
def te87 : TE := ⟨1, false, .other, none, false, (some .nilf)⟩
def te89 : TE := ⟨1, false, .other, (some (.hnd 0 (.struct [(.struct [(.slice (.struct [(.int .i64), .bool])), (.slice (.slice (.struct [(.int .i64), (.int .i64), (.int .i64)])))])]))), false, (some .nilp)⟩
def te93 : TE := ⟨2, true, (.struct [0, 1] [1, 1]), (some (.struct [.bool, (.int .i64)])), true, (some (.dat (.struct [.bool, (.int .i64)]) (dflt (.struct [.bool, (.int .i64)]))))⟩
def te95 : TE := ⟨12, true, (.array 6 93 2), (some (.arr 6 (.struct [.bool, (.int .i64)]))), true, (some (.dat (.arr 6 (.struct [.bool, (.int .i64)])) (dflt (.arr 6 (.struct [.bool, (.int .i64)])))))⟩
def te102 : TE := ⟨1, false, .other, none, false, (some .nilf)⟩
def te104 : TE := ⟨1, false, .other, none, false, (some .nilm)⟩
def te106 : TE := ⟨3, true, (.struct [0, 2] [2, 1]), none, false, (some (.agg [(.dat (.struct [(.slice (.struct [(.int .i64), .bool])), (.slice (.slice (.struct [(.int .i64), (.int .i64), (.int .i64)])))]) (dflt (.struct [(.slice (.struct [(.int .i64), .bool])), (.slice (.slice (.struct [(.int .i64), (.int .i64), (.int .i64)])))]))), .nilm]))⟩
def te110 : TE := ⟨1, false, .other, none, false, (some .nilf)⟩
def te114 : TE := ⟨1, false, (.slice 35 1), (some (.slice (.slice (.int .i64)))), false, (some .nilsl)⟩
def te122 : TE := ⟨1, false, .other, none, false, (some .nilf)⟩
def te133 : TE := ⟨1, false, .other, none, false, (some .nilp)⟩
def te134 : TE := ⟨1, false, .other, none, false, (some .nilf)⟩
def te136 : TE := ⟨1, true, (.struct [0] [1]), none, false, (some (.agg [.nilf]))⟩
def te137 : TE := ⟨3, true, (.array 3 136 1), none, false, (some (.arrL [(.agg [.nilf]), (.agg [.nilf]), (.agg [.nilf])]))⟩
def te139 : TE := ⟨1, false, .other, none, false, (some .nilf)⟩
def te141 : TE := ⟨1, false, .other, none, false, (some .nilf)⟩
def te143 : TE := ⟨1, false, .other, none, false, (some .nilf)⟩
def te146 : TE := ⟨1, false, .other, none, false, (some .nilf)⟩
def teL : List (Nat × TE) := [(3, te3), (4, te4), (5, te5), (9, te9), (22, te22), (23, te23), (25, te25), (26, te26), (35, te35), (41, te41), (43, te43), (45, te45), (46, te46), (53, te53), (54, te54), (61, te61), (64, te64), (66, te66), (67, te67), (69, te69), (71, te71), (73, te73), (75, te75), (78, te78), (83, te83), (86, te86), (87, te87), (89, te89), (93, te93), (95, te95), (102, te102), (104, te104), (106, te106), (110, te110), (114, te114), (122, te122), (133, te133), (134, te134), (136, te136), (137, te137), (139, te139), (141, te141), (143, te143), (146, te146)]
def globs (_ : Nat) : AV := .any
def inls (f : Nat) : Bool := Nat.ble 3 f && Nat.ble f 133
noncomputable def cxOf (con : FuncId → Option Con) (memo : Nat → Option Memo) : Ctx := { P := Go.Proofs.Try.prog, te := lookT teL, con, memo, glob := globs, inl := inls }
end Go.Proofs.Ytallblpnlefpeaa
/- The seat's context for the ghost machine: its types are those of the program. Conditions: none. -/
namespace Go.Proofs.Ytallblpnlefpeaa
open Go Go.Gh Go.Proofs
theorem teok3 : TEok Try.prog 3 te3 := te_of (some (.dat (.int .i64))) (by kernel_rfl) (by kernel_rfl) ⟨by kernel_rfl, by kernel_rfl, by kernel_rfl, by kernel_rfl⟩
theorem teok4 : TEok Try.prog 4 te4 := te_of (some (.dat .bool)) (by kernel_rfl) (by kernel_rfl) ⟨by kernel_rfl, by kernel_rfl, by kernel_rfl, by kernel_rfl⟩
theorem teok5 : TEok Try.prog 5 te5 := te_of (some (.dat (.int .u8))) (by kernel_rfl) (by kernel_rfl) ⟨by kernel_rfl, by kernel_rfl, by kernel_rfl, by kernel_rfl⟩
theorem teok9 : TEok Try.prog 9 te9 := te_of (some (.dat .str)) (by kernel_rfl) (by kernel_rfl) ⟨by kernel_rfl, by kernel_rfl, by kernel_rfl, by kernel_rfl⟩
theorem teok22 : TEok Try.prog 22 te22 := te_of (some .nilsl) (by kernel_rfl) (by kernel_rfl) ⟨by kernel_rfl, by kernel_rfl, by kernel_rfl, by kernel_rfl⟩
theorem teok23 : TEok Try.prog 23 te23 := te_of (some .nilsl) (by kernel_rfl) (by kernel_rfl) ⟨by kernel_rfl, by kernel_rfl, by kernel_rfl, by kernel_rfl⟩
theorem teok25 : TEok Try.prog 25 te25 := te_of (some (.dat (.struct [(.slice (.struct [(.int .i64), .bool])), (.slice (.slice (.struct [(.int .i64), (.int .i64), (.int .i64)])))]))) (by kernel_rfl) (by kernel_rfl) ⟨by kernel_rfl, by kernel_rfl, by kernel_rfl, by kernel_rfl⟩
theorem teok26 : TEok Try.prog 26 te26 := te_of (some (.dat (.int .i64))) (by kernel_rfl) (by kernel_rfl) ⟨by kernel_rfl, by kernel_rfl, by kernel_rfl, by kernel_rfl⟩
theorem teok35 : TEok Try.prog 35 te35 := te_of (some .nilsl) (by kernel_rfl) (by kernel_rfl) ⟨by kernel_rfl, by kernel_rfl, by kernel_rfl, by kernel_rfl⟩
theorem teok41 : TEok Try.prog 41 te41 := te_of (some .nilsl) (by kernel_rfl) (by kernel_rfl) ⟨by kernel_rfl, by kernel_rfl, by kernel_rfl, by kernel_rfl⟩
theorem teok43 : TEok Try.prog 43 te43 := te_of (some .nilf) (by kernel_rfl) (by kernel_rfl) ⟨by kernel_rfl, by kernel_rfl, by kernel_rfl, by kernel_rfl⟩
theorem teok45 : TEok Try.prog 45 te45 := te_of (some (.dat (.struct [(.int .i64), .bool]))) (by kernel_rfl) (by kernel_rfl) ⟨by kernel_rfl, by kernel_rfl, by kernel_rfl, by kernel_rfl⟩
theorem teok46 : TEok Try.prog 46 te46 := te_of (some .nilsl) (by kernel_rfl) (by kernel_rfl) ⟨by kernel_rfl, by kernel_rfl, by kernel_rfl, by kernel_rfl⟩
theorem teok53 : TEok Try.prog 53 te53 := te_of (some (.dat (.struct [.bool, (.int .i64)]))) (by kernel_rfl) (by kernel_rfl) ⟨by kernel_rfl, by kernel_rfl, by kernel_rfl, by kernel_rfl⟩
theorem teok54 : TEok Try.prog 54 te54 := te_of (some .nilsl) (by kernel_rfl) (by kernel_rfl) ⟨by kernel_rfl, by kernel_rfl, by kernel_rfl, by kernel_rfl⟩
theorem teok61 : TEok Try.prog 61 te61 := te_of (some .nilsl) (by kernel_rfl) (by kernel_rfl) ⟨by kernel_rfl, by kernel_rfl, by kernel_rfl, by kernel_rfl⟩
theorem teok64 : TEok Try.prog 64 te64 := te_of (some (.dat (.struct [(.int .i64), (.int .i64), (.int .i64)]))) (by kernel_rfl) (by kernel_rfl) ⟨by kernel_rfl, by kernel_rfl, by kernel_rfl, by kernel_rfl⟩
theorem teok66 : TEok Try.prog 66 te66 := te_of (some (.dat (.struct [(.struct [(.slice (.struct [(.int .i64), .bool])), (.slice (.slice (.struct [(.int .i64), (.int .i64), (.int .i64)])))]), (.int .i64), (.int .i64)]))) (by kernel_rfl) (by kernel_rfl) ⟨by kernel_rfl, by kernel_rfl, by kernel_rfl, by kernel_rfl⟩
theorem teok67 : TEok Try.prog 67 te67 := te_of (some .nilsl) (by kernel_rfl) (by kernel_rfl) ⟨by kernel_rfl, by kernel_rfl, by kernel_rfl, by kernel_rfl⟩
theorem teok69 : TEok Try.prog 69 te69 := te_of (some (.agg [.nilsl, .nilsl])) (by kernel_rfl) (by kernel_rfl) ⟨by kernel_rfl, by kernel_rfl, by kernel_rfl, by kernel_rfl⟩
theorem teok71 : TEok Try.prog 71 te71 := te_of (some .nilp) (by kernel_rfl) (by kernel_rfl) ⟨by kernel_rfl, by kernel_rfl, by kernel_rfl, by kernel_rfl⟩
theorem teok73 : TEok Try.prog 73 te73 := te_of (some .nilf) (by kernel_rfl) (by kernel_rfl) ⟨by kernel_rfl, by kernel_rfl, by kernel_rfl, by kernel_rfl⟩
theorem teok75 : TEok Try.prog 75 te75 := te_of (some .nilf) (by kernel_rfl) (by kernel_rfl) ⟨by kernel_rfl, by kernel_rfl, by kernel_rfl, by kernel_rfl⟩
theorem teok78 : TEok Try.prog 78 te78 := te_of (some .nilp) (by kernel_rfl) (by kernel_rfl) ⟨by kernel_rfl, by kernel_rfl, by kernel_rfl, by kernel_rfl⟩
theorem teok83 : TEok Try.prog 83 te83 := te_of (some .nilf) (by kernel_rfl) (by kernel_rfl) ⟨by kernel_rfl, by kernel_rfl, by kernel_rfl, by kernel_rfl⟩
theorem teok86 : TEok Try.prog 86 te86 := te_of (some .nilf) (by kernel_rfl) (by kernel_rfl) ⟨by kernel_rfl, by kernel_rfl, by kernel_rfl, by kernel_rfl⟩
theorem teok87 : TEok Try.prog 87 te87 := te_of (some .nilf) (by kernel_rfl) (by kernel_rfl) ⟨by kernel_rfl, by kernel_rfl, by kernel_rfl, by kernel_rfl⟩
theorem teok89 : TEok Try.prog 89 te89 := te_of (some .nilp) (by kernel_rfl) (by kernel_rfl) ⟨by kernel_rfl, by kernel_rfl, by kernel_rfl, by kernel_rfl⟩
theorem teok93 : TEok Try.prog 93 te93 := te_of (some (.dat (.struct [.bool, (.int .i64)]))) (by kernel_rfl) (by kernel_rfl) ⟨by kernel_rfl, by kernel_rfl, by kernel_rfl, by kernel_rfl⟩
theorem teok95 : TEok Try.prog 95 te95 := te_of (some (.dat (.arr 6 (.struct [.bool, (.int .i64)])))) (by kernel_rfl) (by kernel_rfl) ⟨by kernel_rfl, by kernel_rfl, by kernel_rfl, by kernel_rfl⟩
theorem teok102 : TEok Try.prog 102 te102 := te_of (some .nilf) (by kernel_rfl) (by kernel_rfl) ⟨by kernel_rfl, by kernel_rfl, by kernel_rfl, by kernel_rfl⟩
theorem teok104 : TEok Try.prog 104 te104 := te_of (some .nilm) (by kernel_rfl) (by kernel_rfl) ⟨by kernel_rfl, by kernel_rfl, by kernel_rfl, by kernel_rfl⟩
theorem teok106 : TEok Try.prog 106 te106 := te_of (some (.agg [(.dat (.struct [(.slice (.struct [(.int .i64), .bool])), (.slice (.slice (.struct [(.int .i64), (.int .i64), (.int .i64)])))])), .nilm])) (by kernel_rfl) (by kernel_rfl) ⟨by kernel_rfl, by kernel_rfl, by kernel_rfl, by kernel_rfl⟩
theorem teok110 : TEok Try.prog 110 te110 := te_of (some .nilf) (by kernel_rfl) (by kernel_rfl) ⟨by kernel_rfl, by kernel_rfl, by kernel_rfl, by kernel_rfl⟩
theorem teok114 : TEok Try.prog 114 te114 := te_of (some .nilsl) (by kernel_rfl) (by kernel_rfl) ⟨by kernel_rfl, by kernel_rfl, by kernel_rfl, by kernel_rfl⟩
theorem teok122 : TEok Try.prog 122 te122 := te_of (some .nilf) (by kernel_rfl) (by kernel_rfl) ⟨by kernel_rfl, by kernel_rfl, by kernel_rfl, by kernel_rfl⟩
theorem teok133 : TEok Try.prog 133 te133 := te_of (some .nilp) (by kernel_rfl) (by kernel_rfl) ⟨by kernel_rfl, by kernel_rfl, by kernel_rfl, by kernel_rfl⟩
theorem teok134 : TEok Try.prog 134 te134 := te_of (some .nilf) (by kernel_rfl) (by kernel_rfl) ⟨by kernel_rfl, by kernel_rfl, by kernel_rfl, by kernel_rfl⟩
theorem teok136 : TEok Try.prog 136 te136 := te_of (some (.agg [.nilf])) (by kernel_rfl) (by kernel_rfl) ⟨by kernel_rfl, by kernel_rfl, by kernel_rfl, by kernel_rfl⟩
theorem teok137 : TEok Try.prog 137 te137 := te_of (some (.arrL [(.agg [.nilf]), (.agg [.nilf]), (.agg [.nilf])])) (by kernel_rfl) (by kernel_rfl) ⟨by kernel_rfl, by kernel_rfl, by kernel_rfl, by kernel_rfl⟩
theorem teok139 : TEok Try.prog 139 te139 := te_of (some .nilf) (by kernel_rfl) (by kernel_rfl) ⟨by kernel_rfl, by kernel_rfl, by kernel_rfl, by kernel_rfl⟩
theorem teok141 : TEok Try.prog 141 te141 := te_of (some .nilf) (by kernel_rfl) (by kernel_rfl) ⟨by kernel_rfl, by kernel_rfl, by kernel_rfl, by kernel_rfl⟩
theorem teok143 : TEok Try.prog 143 te143 := te_of (some .nilf) (by kernel_rfl) (by kernel_rfl) ⟨by kernel_rfl, by kernel_rfl, by kernel_rfl, by kernel_rfl⟩
theorem teok146 : TEok Try.prog 146 te146 := te_of (some .nilf) (by kernel_rfl) (by kernel_rfl) ⟨by kernel_rfl, by kernel_rfl, by kernel_rfl, by kernel_rfl⟩
theorem te_all : ∀ x ∈ teL, TEok Try.prog x.1 x.2 := by
 simp only [teL, List.forall_mem_cons]
 exact ⟨teok3, teok4, teok5, teok9, teok22, teok23, teok25, teok26, teok35, teok41, teok43, teok45, teok46, teok53, teok54, teok61, teok64, teok66, teok67, teok69, teok71, teok73, teok75, teok78, teok83, teok86, teok87, teok89, teok93, teok95, teok102, teok104, teok106, teok110, teok114, teok122, teok133, teok134, teok136, teok137, teok139, teok141, teok143, teok146, fun _ h => absurd h List.not_mem_nil⟩
def names (P : Program) (l : List Nat) : Bool := l.all fun f => match P.funcs[f]? with | some fn => !(fn.name == "runtime.NumGoroutine") | none => true
theorem names_spec {P : Program} {l : List Nat} (h : names P l = true) {f : FuncId} {fn : Func} (hm : f ∈ l) (hf : P.funcs[f]? = some fn) : fn.name ≠ "runtime.NumGoroutine" := by
 unfold names at h
 rw [List.all_eq_true] at h
 have h2 := h f hm
 rw [hf] at h2
 simpa using h2
theorem names_ok : names Try.prog (List.range 134) = true := by kernel_rfl
theorem inls_le {f : Nat} (h : inls f = true) : f ∈ List.range 134 := by
 simp [inls] at h
 rw [List.mem_range]; omega
theorem inl_ok (f : FuncId) (fn : Func) (h : inls f = true) (hf : Try.prog.funcs[f]? = some fn) : fn.name ≠ "runtime.NumGoroutine" := names_spec names_ok (inls_le h) hf
theorem mixed_ok : Try.prog.follows .mixedOrders = true := by kernel_rfl
end Go.Proofs.Ytallblpnlefpeaa
/- All numbers of a book, by the rows that stand, as the program comes to them. Conditions: none (definitions alone). -/
namespace Go.Proofs.Ytallblpnlefpeaa
open Go Go.Gh Go.Proofs
abbrev Rw := Int × Bool × Unit
abbrev Wy := Int × Int × Int × Unit
abbrev Bk := List Rw × List (List Wy) × Unit
abbrev Fd := Bool × Int × Unit
def fd0 : Fd := (false, 0, ())
def rw0 : Rw := (0, false, ())
def bitL (n : Int) (k : Nat) : List Nat := (List.range k).filter fun i => n.toNat.testBit i
def opP (op : Int) (n x : Int) : Int := if op = 0 then n + x else if op = 1 then (if x > n then x else n) else (if x < n then x else n)
def madeP (op : Int) : List Int → Fd
 | [] => fd0
 | v :: r => (true, r.foldl (opP op) v, ())
def makesP (b : Bk) (w : Wy) (rows : Int) (l : List Fd) : Fd :=
 if ((bitL w.2.1 8).any fun i => !rows.toNat.testBit i) = true then fd0
 else if ((bitL w.2.2.1 6).any fun i => !(l.getD i fd0).1) = true then fd0
 else madeP w.1 ((bitL w.2.1 8).map (fun i => (b.1.getD i rw0).1) ++ (bitL w.2.2.1 6).map fun i => (l.getD i fd0).2.1)
def firstP (b : Bk) (rows : Int) (l : List Fd) (ws : List Wy) : Option Fd := (ws.map fun w => makesP b w rows l).find? fun f => f.1
def allN (b : Bk) (rows : Int) : Nat → List Fd
 | 0 => List.replicate 6 fd0
 | n + 1 => match firstP b rows (allN b rows n) (b.2.1.getD n []) with
  | some f => (allN b rows n).set n f
  | none => allN b rows n
def allP (b : Bk) (rows : Int) : List Fd := allN b rows b.2.1.length
abbrev tRw : Ty := .struct [.int .i64, .bool]
abbrev tWy : Ty := .struct [.int .i64, .int .i64, .int .i64]
abbrev tBk : Ty := .struct [.slice tRw, .slice (.slice tWy)]
abbrev tFd : Ty := .struct [.bool, .int .i64]
def allF (m : denL [(.struct [(.slice (.struct [(.int .i64), .bool])), (.slice (.slice (.struct [(.int .i64), (.int .i64), (.int .i64)])))])]) (rows : den (.int .i64)) : Option (den (.arr 6 (.struct [.bool, (.int .i64)]))) := some (allP (m : Bk × Unit).1 rows)
def memoC (i : Nat) : Option Memo := cond (Nat.beq i 0) (some { T := 106, ts := [(.struct [(.slice (.struct [(.int .i64), .bool])), (.slice (.slice (.struct [(.int .i64), (.int .i64), (.int .i64)])))])], M := 104, key := (.int .i64), val := (.arr 6 (.struct [.bool, (.int .i64)])), f := allF }) none
noncomputable def cx00 : Ctx := { cxOf (fun _ => none) memoC with keep := fun n => Nat.beq n 97 }
def opsA : AV := .arrL [.agg [.fn 127 [] []], .agg [.fn 128 [] []], .agg [.fn 129 [] []]]
noncomputable def cx0 : Ctx := cx00.addC 120 opsA
end Go.Proofs.Ytallblpnlefpeaa
/- The seat's context for the ghost machine is the program's. Conditions: none. -/
namespace Go.Proofs.Ytallblpnlefpeaa
open Go Go.Gh Go.Proofs
theorem map0 (i : Nat) (mm : Memo) (h : cx00.memo i = some mm) : MapOK cx00.P mm := by
 have h : memoC i = some mm := h
 unfold memoC at h
 cases hq : Nat.beq i 0 with
 | true =>
  rw [hq] at h
  cases h
  exact map_of 3 95 (by kernel_rfl) (by kernel_rfl) (by kernel_rfl) (by kernel_rfl) (by kernel_rfl) (by kernel_rfl) (by kernel_rfl) (by kernel_rfl)
 | false => rw [hq] at h; cases h
theorem globm0 (g id : Nat) : men id (globs g) = false := rfl
theorem ok00 : CtxOK' cx00 :=
 { te := fun T te h => lookT_all te_all T te h, con := fun f c h => (by cases h), cst := fun f a h => (by cases h), map := map0, inl := inl_ok, mixed := mixed_ok, globm := globm0, sub := fun f c h => (by cases h) }
theorem fn_is {f : Nat} (hm : f ∈ List.range 134) (hb : ((Try.prog.funcs[f]?).bind (·.body)).isSome = true) : ∃ fn, Try.prog.funcs[f]? = some fn ∧ fn.name ≠ "runtime.NumGoroutine" ∧ fn.body.isNone = false := by
 cases h : Try.prog.funcs[f]? with
 | none => rw [h] at hb; cases hb
 | some fn =>
  rw [h] at hb
  refine ⟨fn, rfl, names_spec names_ok hm h, ?_⟩
  simpa using hb
theorem ops_body : ∃ c, Try.f120.body = some c ∧ exec cx00 (fun _ => false) outK 500 (entryCf 120 Try.f120.ntmps c [] ()) = some opsA := ⟨_, rfl, by kernel_rfl⟩
theorem ok0 : CtxOK' cx0 := by
 obtain ⟨c, h1, h2⟩ := ops_body
 exact CtxOK'.addC ok00 (cst_of ok00 (by kernel_rfl) h1 500 h2 rfl) (fn_is (List.mem_range.2 (by decide)) (by kernel_rfl))
end Go.Proofs.Ytallblpnlefpeaa
