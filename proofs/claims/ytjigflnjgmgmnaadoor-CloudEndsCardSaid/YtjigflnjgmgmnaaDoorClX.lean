/- The seat's context for the ghost machine: the table of its types. Conditions: none (definitions alone). -/
import Derived.Test.YtjigflnjgmgmnaaDoorGhG
import Derived.Test.YtjigflnjgmgmnaaDoorProg
namespace Go.Proofs.YtjigflnjgmgmnaaDoor
open Go Go.Gh
def te3 : TE := ⟨1, false, (.int .i64), (some (.int .i64)), true, (some (.dat (.int .i64) (dflt (.int .i64))))⟩
def te4 : TE := ⟨1, false, .other, (some .bool), true, (some (.dat .bool (dflt .bool)))⟩
def te5 : TE := ⟨1, false, (.int .u8), (some (.int .u8)), true, (some (.dat (.int .u8) (dflt (.int .u8))))⟩
def te9 : TE := ⟨1, false, .other, (some .str), true, (some (.dat .str (dflt .str)))⟩
def te22 : TE := ⟨1, false, (.slice 66 2), (some (.slice (.struct [(.int .i64), (.int .i64)]))), false, (some .nilsl)⟩
def te24 : TE := ⟨2, true, (.struct [0, 1] [1, 1]), (some (.struct [(.int .i64), (.slice (.struct [(.int .i64), (.int .i64)]))])), false, (some (.dat (.struct [(.int .i64), (.slice (.struct [(.int .i64), (.int .i64)]))]) (dflt (.struct [(.int .i64), (.slice (.struct [(.int .i64), (.int .i64)]))]))))⟩
def te25 : TE := ⟨1, false, (.int .i64), (some (.int .i64)), true, (some (.dat (.int .i64) (dflt (.int .i64))))⟩
def te29 : TE := ⟨2, true, (.struct [0, 1] [1, 1]), (some (.struct [(.int .i64), (.int .i64)])), true, (some (.dat (.struct [(.int .i64), (.int .i64)]) (dflt (.struct [(.int .i64), (.int .i64)]))))⟩
def te34 : TE := ⟨2, true, (.array 2 3 1), (some (.arr 2 (.int .i64))), true, (some (.dat (.arr 2 (.int .i64)) (dflt (.arr 2 (.int .i64)))))⟩
def te36 : TE := ⟨2, true, (.struct [0, 1] [1, 1]), (some (.struct [(.int .i64), (.int .i64)])), true, (some (.dat (.struct [(.int .i64), (.int .i64)]) (dflt (.struct [(.int .i64), (.int .i64)]))))⟩
def te42 : TE := ⟨1, false, (.slice 3 1), (some (.slice (.int .i64))), false, (some .nilsl)⟩
def te51 : TE := ⟨1, false, (.slice 5 1), (some (.slice (.int .u8))), false, (some .nilsl)⟩
def te66 : TE := ⟨2, true, (.struct [0, 1] [1, 1]), (some (.struct [(.int .i64), (.int .i64)])), true, (some (.dat (.struct [(.int .i64), (.int .i64)]) (dflt (.struct [(.int .i64), (.int .i64)]))))⟩
def te68 : TE := ⟨2, true, (.array 2 5 1), (some (.arr 2 (.int .u8))), true, (some (.dat (.arr 2 (.int .u8)) (dflt (.arr 2 (.int .u8)))))⟩
def te78 : TE := ⟨4, true, (.struct [0, 2, 3] [2, 1, 1]), (some (.struct [(.struct [(.int .i64), (.slice (.struct [(.int .i64), (.int .i64)]))]), (.int .i64), (.int .i64)])), false, (some (.dat (.struct [(.struct [(.int .i64), (.slice (.struct [(.int .i64), (.int .i64)]))]), (.int .i64), (.int .i64)]) (dflt (.struct [(.struct [(.int .i64), (.slice (.struct [(.int .i64), (.int .i64)]))]), (.int .i64), (.int .i64)]))))⟩
def te79 : TE := ⟨1, false, (.slice 9 1), (some (.slice .str)), false, (some .nilsl)⟩
def te81 : TE := ⟨2, true, (.struct [0, 1] [1, 1]), (some (.struct [(.slice (.int .i64)), (.slice .str)])), false, (some (.agg [.nilsl, .nilsl]))⟩
def te83 : TE := ⟨1, false, .other, none, false, (some .nilp)⟩
def te85 : TE := ⟨1, false, .other, none, false, (some .nilf)⟩
def te87 : TE := ⟨1, false, .other, none, false, (some .nilf)⟩
def te92 : TE := ⟨1, false, .other, none, false, (some .nilp)⟩
def te98 : TE := ⟨1, false, .other, none, false, (some .nilf)⟩
def te99 : TE := ⟨1, false, .other, (some (.hnd 0 (.struct [(.struct [(.int .i64), (.slice (.struct [(.int .i64), (.int .i64)]))]), (.int .i64)]))), false, (some .nilp)⟩
def te103 : TE := ⟨24, true, (.array 12 29 2), (some (.arr 12 (.struct [(.int .i64), (.int .i64)]))), true, (some (.dat (.arr 12 (.struct [(.int .i64), (.int .i64)])) (dflt (.arr 12 (.struct [(.int .i64), (.int .i64)])))))⟩
def te107 : TE := ⟨2, true, (.struct [0, 1] [1, 1]), (some (.struct [(.int .i64), (.int .i64)])), true, (some (.dat (.struct [(.int .i64), (.int .i64)]) (dflt (.struct [(.int .i64), (.int .i64)]))))⟩
def te118 : TE := ⟨1, false, (.slice 29 2), (some (.slice (.struct [(.int .i64), (.int .i64)]))), false, (some .nilsl)⟩
def te119 : TE := ⟨1, false, .other, none, false, (some .nilf)⟩
def te120 : TE := ⟨1, false, .other, none, false, (some .nilf)⟩
def te123 : TE := ⟨1, false, .other, none, false, (some .nilf)⟩
def te126 : TE := ⟨1, false, (.slice 42 1), (some (.slice (.slice (.int .i64)))), false, (some .nilsl)⟩
def te131 : TE := ⟨101, true, (.array 101 4 1), (some (.arr 101 .bool)), true, (some (.dat (.arr 101 .bool) (dflt (.arr 101 .bool))))⟩
def te132 : TE := ⟨202, true, (.array 101 29 2), (some (.arr 101 (.struct [(.int .i64), (.int .i64)]))), true, (some (.dat (.arr 101 (.struct [(.int .i64), (.int .i64)])) (dflt (.arr 101 (.struct [(.int .i64), (.int .i64)])))))⟩
def te134 : TE := ⟨303, true, (.struct [0, 101] [101, 202]), (some (.struct [(.arr 101 .bool), (.arr 101 (.struct [(.int .i64), (.int .i64)]))])), true, (some (.dat (.struct [(.arr 101 .bool), (.arr 101 (.struct [(.int .i64), (.int .i64)]))]) (dflt (.struct [(.arr 101 .bool), (.arr 101 (.struct [(.int .i64), (.int .i64)]))]))))⟩
def te135 : TE := ⟨1, false, (.slice 134 303), (some (.slice (.struct [(.arr 101 .bool), (.arr 101 (.struct [(.int .i64), (.int .i64)]))]))), false, (some .nilsl)⟩
def te141 : TE := ⟨1, false, .other, none, false, (some .nilf)⟩
def te143 : TE := ⟨1, false, .other, none, false, (some .nilm)⟩
def te145 : TE := ⟨4, true, (.struct [0, 2, 3] [2, 1, 1]), none, false, (some (.agg [(.dat (.struct [(.int .i64), (.slice (.struct [(.int .i64), (.int .i64)]))]) (dflt (.struct [(.int .i64), (.slice (.struct [(.int .i64), (.int .i64)]))]))), (.dat (.int .i64) (dflt (.int .i64))), .nilm]))⟩
def te146 : TE := ⟨1, false, .other, none, false, (some .nilf)⟩
def te148 : TE := ⟨1, true, (.struct [0] [1]), none, false, (some (.agg [.nilf]))⟩
def te149 : TE := ⟨4, true, (.array 4 148 1), none, false, (some (.arrL [(.agg [.nilf]), (.agg [.nilf]), (.agg [.nilf]), (.agg [.nilf])]))⟩
def te158 : TE := ⟨1, false, .other, none, false, (some .nilp)⟩
def te161 : TE := ⟨1, false, .other, none, false, (some .nilf)⟩
def teL : List (Nat × TE) := [(3, te3), (4, te4), (5, te5), (9, te9), (22, te22), (24, te24), (25, te25), (29, te29), (34, te34), (36, te36), (42, te42), (51, te51), (66, te66), (68, te68), (78, te78), (79, te79), (81, te81), (83, te83), (85, te85), (87, te87), (92, te92), (98, te98), (99, te99), (103, te103), (107, te107), (118, te118), (119, te119), (120, te120), (123, te123), (126, te126), (131, te131), (132, te132), (134, te134), (135, te135), (141, te141), (143, te143), (145, te145), (146, te146), (148, te148), (149, te149), (158, te158), (161, te161)]
def globs (g : Nat) : AV := cond (Nat.beq g 0) (.cptr (.struct [.int .i64, .int .i64]) (-1, 0, ())) .any
def inls (f : Nat) : Bool := Nat.ble 3 f && Nat.ble f 140
noncomputable def cxOf (con : FuncId → Option Con) (memo : Nat → Option Memo) : Ctx := { P := Go.Proofs.Tryd.prog, te := lookT teL, con, memo, glob := globs, inl := inls }
end Go.Proofs.YtjigflnjgmgmnaaDoor
/- What days can have, as the program comes to it. Conditions: none (definitions alone). -/
namespace Go.Proofs.YtjigflnjgmgmnaaDoor
open Go Go.Gh Go.Proofs
abbrev Sp := Int × Int × Unit
abbrev Mo := (Int × List Sp × Unit) × Int × Unit
def sp (a b : Int) : Sp := (a, b, ())
def z0 : Sp := (0, 0, ())
def both (a b : Sp) : Sp := (max a.1 b.1, min a.2.1 b.2.1, ())
def near (step : Int) (s : Sp) : Sp := (s.1 - step, s.2.1 + step, ())
def canD (d : Sp) : Sp := if d.1 = 0 then sp 0 100 else if d.1 = 1 then sp d.2.1 100 else sp d.2.1 d.2.1
def bitOf (n : Int) (i : Nat) : Bool := n.toNat.testBit i
def dayAt (m : Mo) (i : Nat) : Sp := if bitOf m.2.1 i then z0 else m.1.2.1.getD i z0
def own (m : Mo) (t : Sp) (i : Nat) : Sp := if (i : Int) = t.1 then both (canD (dayAt m i)) (sp t.2.1 t.2.1) else canD (dayAt m i)
def init (m : Mo) (t : Sp) : List Sp := (List.range 12).map fun i => if i < m.1.2.1.length then own m t i else z0
def stepAt (step : Int) (n : Nat) (l : List Sp) (i : Nat) : List Sp :=
 let l := if 0 < i then l.set i (both (l.getD i z0) (near step (l.getD (i - 1) z0))) else l
 if i + 1 < n then l.set i (both (l.getD i z0) (near step (l.getD (i + 1) z0))) else l
def sweep (step : Int) (n : Nat) : Nat → Nat → List Sp → List Sp × Bool
 | 0, _, l => (l, false)
 | c + 1, i, l =>
  let l' := stepAt step n l i
  if (l'.getD i z0).1 > (l'.getD i z0).2.1 then (l'.set 0 (1, 0, ()), true) else sweep step n c (i + 1) l'
def spLoop (step : Int) (n : Nat) : Nat → List Sp → List Sp → Option (List Sp)
 | 0, _, _ => none
 | f + 1, was, l => if was = l then some l else match sweep step n n 0 l with
   | (l', true) => some l'
   | (l', false) => spLoop step n f l l'
noncomputable def spansF (m : denL [(.struct [(.int .i64), (.slice (.struct [(.int .i64), (.int .i64)]))]), (.int .i64)]) (t : den (.struct [.int .i64, .int .i64])) : Option (den (.arr 12 (.struct [.int .i64, .int .i64]))) :=
 runOf fun f => spLoop (m : Mo).1.1 (m : Mo).1.2.1.length f (List.replicate 12 z0) (init m t)
noncomputable def memoC (i : Nat) : Option Memo := cond (Nat.beq i 0) (some { T := 145, ts := [(.struct [(.int .i64), (.slice (.struct [(.int .i64), (.int .i64)]))]), (.int .i64)], M := 143, key := (.struct [.int .i64, .int .i64]), val := (.arr 12 (.struct [.int .i64, .int .i64])), f := spansF }) none
noncomputable def cx0 : Ctx := cxOf (fun _ => none) memoC
end Go.Proofs.YtjigflnjgmgmnaaDoor
/- The seat's context for the ghost machine: its types are those of the program. Conditions: none. -/
namespace Go.Proofs.YtjigflnjgmgmnaaDoor
open Go Go.Gh Go.Proofs
theorem teok3 : TEok Tryd.prog 3 te3 := te_of (some (.dat (.int .i64))) (by kernel_rfl) (by kernel_rfl) ⟨by kernel_rfl, by kernel_rfl, by kernel_rfl, by kernel_rfl⟩
theorem teok4 : TEok Tryd.prog 4 te4 := te_of (some (.dat .bool)) (by kernel_rfl) (by kernel_rfl) ⟨by kernel_rfl, by kernel_rfl, by kernel_rfl, by kernel_rfl⟩
theorem teok5 : TEok Tryd.prog 5 te5 := te_of (some (.dat (.int .u8))) (by kernel_rfl) (by kernel_rfl) ⟨by kernel_rfl, by kernel_rfl, by kernel_rfl, by kernel_rfl⟩
theorem teok9 : TEok Tryd.prog 9 te9 := te_of (some (.dat .str)) (by kernel_rfl) (by kernel_rfl) ⟨by kernel_rfl, by kernel_rfl, by kernel_rfl, by kernel_rfl⟩
theorem teok22 : TEok Tryd.prog 22 te22 := te_of (some .nilsl) (by kernel_rfl) (by kernel_rfl) ⟨by kernel_rfl, by kernel_rfl, by kernel_rfl, by kernel_rfl⟩
theorem teok24 : TEok Tryd.prog 24 te24 := te_of (some (.dat (.struct [(.int .i64), (.slice (.struct [(.int .i64), (.int .i64)]))]))) (by kernel_rfl) (by kernel_rfl) ⟨by kernel_rfl, by kernel_rfl, by kernel_rfl, by kernel_rfl⟩
theorem teok25 : TEok Tryd.prog 25 te25 := te_of (some (.dat (.int .i64))) (by kernel_rfl) (by kernel_rfl) ⟨by kernel_rfl, by kernel_rfl, by kernel_rfl, by kernel_rfl⟩
theorem teok29 : TEok Tryd.prog 29 te29 := te_of (some (.dat (.struct [(.int .i64), (.int .i64)]))) (by kernel_rfl) (by kernel_rfl) ⟨by kernel_rfl, by kernel_rfl, by kernel_rfl, by kernel_rfl⟩
theorem teok34 : TEok Tryd.prog 34 te34 := te_of (some (.dat (.arr 2 (.int .i64)))) (by kernel_rfl) (by kernel_rfl) ⟨by kernel_rfl, by kernel_rfl, by kernel_rfl, by kernel_rfl⟩
theorem teok36 : TEok Tryd.prog 36 te36 := te_of (some (.dat (.struct [(.int .i64), (.int .i64)]))) (by kernel_rfl) (by kernel_rfl) ⟨by kernel_rfl, by kernel_rfl, by kernel_rfl, by kernel_rfl⟩
theorem teok42 : TEok Tryd.prog 42 te42 := te_of (some .nilsl) (by kernel_rfl) (by kernel_rfl) ⟨by kernel_rfl, by kernel_rfl, by kernel_rfl, by kernel_rfl⟩
theorem teok51 : TEok Tryd.prog 51 te51 := te_of (some .nilsl) (by kernel_rfl) (by kernel_rfl) ⟨by kernel_rfl, by kernel_rfl, by kernel_rfl, by kernel_rfl⟩
theorem teok66 : TEok Tryd.prog 66 te66 := te_of (some (.dat (.struct [(.int .i64), (.int .i64)]))) (by kernel_rfl) (by kernel_rfl) ⟨by kernel_rfl, by kernel_rfl, by kernel_rfl, by kernel_rfl⟩
theorem teok68 : TEok Tryd.prog 68 te68 := te_of (some (.dat (.arr 2 (.int .u8)))) (by kernel_rfl) (by kernel_rfl) ⟨by kernel_rfl, by kernel_rfl, by kernel_rfl, by kernel_rfl⟩
theorem teok78 : TEok Tryd.prog 78 te78 := te_of (some (.dat (.struct [(.struct [(.int .i64), (.slice (.struct [(.int .i64), (.int .i64)]))]), (.int .i64), (.int .i64)]))) (by kernel_rfl) (by kernel_rfl) ⟨by kernel_rfl, by kernel_rfl, by kernel_rfl, by kernel_rfl⟩
theorem teok79 : TEok Tryd.prog 79 te79 := te_of (some .nilsl) (by kernel_rfl) (by kernel_rfl) ⟨by kernel_rfl, by kernel_rfl, by kernel_rfl, by kernel_rfl⟩
theorem teok81 : TEok Tryd.prog 81 te81 := te_of (some (.agg [.nilsl, .nilsl])) (by kernel_rfl) (by kernel_rfl) ⟨by kernel_rfl, by kernel_rfl, by kernel_rfl, by kernel_rfl⟩
theorem teok83 : TEok Tryd.prog 83 te83 := te_of (some .nilp) (by kernel_rfl) (by kernel_rfl) ⟨by kernel_rfl, by kernel_rfl, by kernel_rfl, by kernel_rfl⟩
theorem teok85 : TEok Tryd.prog 85 te85 := te_of (some .nilf) (by kernel_rfl) (by kernel_rfl) ⟨by kernel_rfl, by kernel_rfl, by kernel_rfl, by kernel_rfl⟩
theorem teok87 : TEok Tryd.prog 87 te87 := te_of (some .nilf) (by kernel_rfl) (by kernel_rfl) ⟨by kernel_rfl, by kernel_rfl, by kernel_rfl, by kernel_rfl⟩
theorem teok92 : TEok Tryd.prog 92 te92 := te_of (some .nilp) (by kernel_rfl) (by kernel_rfl) ⟨by kernel_rfl, by kernel_rfl, by kernel_rfl, by kernel_rfl⟩
theorem teok98 : TEok Tryd.prog 98 te98 := te_of (some .nilf) (by kernel_rfl) (by kernel_rfl) ⟨by kernel_rfl, by kernel_rfl, by kernel_rfl, by kernel_rfl⟩
theorem teok99 : TEok Tryd.prog 99 te99 := te_of (some .nilp) (by kernel_rfl) (by kernel_rfl) ⟨by kernel_rfl, by kernel_rfl, by kernel_rfl, by kernel_rfl⟩
theorem teok103 : TEok Tryd.prog 103 te103 := te_of (some (.dat (.arr 12 (.struct [(.int .i64), (.int .i64)])))) (by kernel_rfl) (by kernel_rfl) ⟨by kernel_rfl, by kernel_rfl, by kernel_rfl, by kernel_rfl⟩
theorem teok107 : TEok Tryd.prog 107 te107 := te_of (some (.dat (.struct [(.int .i64), (.int .i64)]))) (by kernel_rfl) (by kernel_rfl) ⟨by kernel_rfl, by kernel_rfl, by kernel_rfl, by kernel_rfl⟩
theorem teok118 : TEok Tryd.prog 118 te118 := te_of (some .nilsl) (by kernel_rfl) (by kernel_rfl) ⟨by kernel_rfl, by kernel_rfl, by kernel_rfl, by kernel_rfl⟩
theorem teok119 : TEok Tryd.prog 119 te119 := te_of (some .nilf) (by kernel_rfl) (by kernel_rfl) ⟨by kernel_rfl, by kernel_rfl, by kernel_rfl, by kernel_rfl⟩
theorem teok120 : TEok Tryd.prog 120 te120 := te_of (some .nilf) (by kernel_rfl) (by kernel_rfl) ⟨by kernel_rfl, by kernel_rfl, by kernel_rfl, by kernel_rfl⟩
theorem teok123 : TEok Tryd.prog 123 te123 := te_of (some .nilf) (by kernel_rfl) (by kernel_rfl) ⟨by kernel_rfl, by kernel_rfl, by kernel_rfl, by kernel_rfl⟩
theorem teok126 : TEok Tryd.prog 126 te126 := te_of (some .nilsl) (by kernel_rfl) (by kernel_rfl) ⟨by kernel_rfl, by kernel_rfl, by kernel_rfl, by kernel_rfl⟩
theorem teok131 : TEok Tryd.prog 131 te131 := te_of (some (.dat (.arr 101 .bool))) (by kernel_rfl) (by kernel_rfl) ⟨by kernel_rfl, by kernel_rfl, by kernel_rfl, by kernel_rfl⟩
theorem teok132 : TEok Tryd.prog 132 te132 := te_of (some (.dat (.arr 101 (.struct [(.int .i64), (.int .i64)])))) (by kernel_rfl) (by kernel_rfl) ⟨by kernel_rfl, by kernel_rfl, by kernel_rfl, by kernel_rfl⟩
theorem teok134 : TEok Tryd.prog 134 te134 := te_of (some (.dat (.struct [(.arr 101 .bool), (.arr 101 (.struct [(.int .i64), (.int .i64)]))]))) (by kernel_rfl) (by kernel_rfl) ⟨by kernel_rfl, by kernel_rfl, by kernel_rfl, by kernel_rfl⟩
theorem teok135 : TEok Tryd.prog 135 te135 := te_of (some .nilsl) (by kernel_rfl) (by kernel_rfl) ⟨by kernel_rfl, by kernel_rfl, by kernel_rfl, by kernel_rfl⟩
theorem teok141 : TEok Tryd.prog 141 te141 := te_of (some .nilf) (by kernel_rfl) (by kernel_rfl) ⟨by kernel_rfl, by kernel_rfl, by kernel_rfl, by kernel_rfl⟩
theorem teok143 : TEok Tryd.prog 143 te143 := te_of (some .nilm) (by kernel_rfl) (by kernel_rfl) ⟨by kernel_rfl, by kernel_rfl, by kernel_rfl, by kernel_rfl⟩
theorem teok145 : TEok Tryd.prog 145 te145 := te_of (some (.agg [(.dat (.struct [(.int .i64), (.slice (.struct [(.int .i64), (.int .i64)]))])), (.dat (.int .i64)), .nilm])) (by kernel_rfl) (by kernel_rfl) ⟨by kernel_rfl, by kernel_rfl, by kernel_rfl, by kernel_rfl⟩
theorem teok146 : TEok Tryd.prog 146 te146 := te_of (some .nilf) (by kernel_rfl) (by kernel_rfl) ⟨by kernel_rfl, by kernel_rfl, by kernel_rfl, by kernel_rfl⟩
theorem teok148 : TEok Tryd.prog 148 te148 := te_of (some (.agg [.nilf])) (by kernel_rfl) (by kernel_rfl) ⟨by kernel_rfl, by kernel_rfl, by kernel_rfl, by kernel_rfl⟩
theorem teok149 : TEok Tryd.prog 149 te149 := te_of (some (.arrL [(.agg [.nilf]), (.agg [.nilf]), (.agg [.nilf]), (.agg [.nilf])])) (by kernel_rfl) (by kernel_rfl) ⟨by kernel_rfl, by kernel_rfl, by kernel_rfl, by kernel_rfl⟩
theorem teok158 : TEok Tryd.prog 158 te158 := te_of (some .nilp) (by kernel_rfl) (by kernel_rfl) ⟨by kernel_rfl, by kernel_rfl, by kernel_rfl, by kernel_rfl⟩
theorem teok161 : TEok Tryd.prog 161 te161 := te_of (some .nilf) (by kernel_rfl) (by kernel_rfl) ⟨by kernel_rfl, by kernel_rfl, by kernel_rfl, by kernel_rfl⟩
theorem te_all : ∀ x ∈ teL, TEok Tryd.prog x.1 x.2 := by
 simp only [teL, List.forall_mem_cons]
 exact ⟨teok3, teok4, teok5, teok9, teok22, teok24, teok25, teok29, teok34, teok36, teok42, teok51, teok66, teok68, teok78, teok79, teok81, teok83, teok85, teok87, teok92, teok98, teok99, teok103, teok107, teok118, teok119, teok120, teok123, teok126, teok131, teok132, teok134, teok135, teok141, teok143, teok145, teok146, teok148, teok149, teok158, teok161, fun _ h => absurd h List.not_mem_nil⟩
def names (P : Program) (l : List Nat) : Bool := l.all fun f => match P.funcs[f]? with | some fn => !(fn.name == "runtime.NumGoroutine") | none => true
theorem names_spec {P : Program} {l : List Nat} (h : names P l = true) {f : FuncId} {fn : Func} (hm : f ∈ l) (hf : P.funcs[f]? = some fn) : fn.name ≠ "runtime.NumGoroutine" := by
 unfold names at h
 rw [List.all_eq_true] at h
 have h2 := h f hm
 rw [hf] at h2
 simpa using h2
theorem names_ok : names Tryd.prog (List.range 141) = true := by kernel_rfl
theorem inls_le {f : Nat} (h : inls f = true) : f ∈ List.range 141 := by
 simp [inls] at h
 rw [List.mem_range]; omega
theorem inl_ok (f : FuncId) (fn : Func) (h : inls f = true) (hf : Tryd.prog.funcs[f]? = some fn) : fn.name ≠ "runtime.NumGoroutine" := names_spec names_ok (inls_le h) hf
theorem mixed_ok : Tryd.prog.follows .mixedOrders = true := by kernel_rfl
end Go.Proofs.YtjigflnjgmgmnaaDoor
/- The seat's context for the ghost machine is the program's. Conditions: none. -/
namespace Go.Proofs.YtjigflnjgmgmnaaDoor
open Go Go.Gh Go.Proofs
theorem map0 (i : Nat) (mm : Memo) (h : cx0.memo i = some mm) : MapOK cx0.P mm := by
 have h : memoC i = some mm := h
 unfold memoC at h
 cases hq : Nat.beq i 0 with
 | true =>
  rw [hq] at h
  cases h
  exact map_of 107 103 (by kernel_rfl) (by kernel_rfl) (by kernel_rfl) (by kernel_rfl) (by kernel_rfl) (by kernel_rfl) (by kernel_rfl) (by kernel_rfl)
 | false => rw [hq] at h; cases h
theorem globm0 (g id : Nat) : men id (globs g) = false := by
 unfold globs
 cases Nat.beq g 0 <;> rfl
theorem ok0 : CtxOK' cx0 :=
 { te := fun T te h => lookT_all te_all T te h, con := fun f c h => (by cases h), cst := fun f a h => (by cases h), map := map0, inl := inl_ok, mixed := mixed_ok, globm := globm0, sub := fun f c h => (by cases h) }
theorem fn_is {f : Nat} (hm : f ∈ List.range 141) (hb : ((Tryd.prog.funcs[f]?).bind (·.body)).isSome = true) : ∃ fn, Tryd.prog.funcs[f]? = some fn ∧ fn.name ≠ "runtime.NumGoroutine" ∧ fn.body.isNone = false := by
 cases h : Tryd.prog.funcs[f]? with
 | none => rw [h] at hb; cases hb
 | some fn =>
  rw [h] at hb
  refine ⟨fn, rfl, names_spec names_ok hm h, ?_⟩
  simpa using hb
end Go.Proofs.YtjigflnjgmgmnaaDoor
