/- The listed variable, and the row's contract of package cloud's laws. Conditions: as each lemma states. -/
import Derived.Test.YtjigflnjgmgmnaaDoorClX
import Derived.Test.YtjigflnjgmgmnaaDoorGhH
import Derived.Test.YtjigflnjgmgmnaaDoorRows
import Derived.LaidMore
import Derived.Test.YtjigflnjgmgmnaaDoorClK
import Derived.Test.YtjigflnjgmgmnaaDoorCards
import Derived.Test.YtjigflnjgmgmnaaDoorTie
import Derived.SevenTiedAt
import Derived.JoinedOf
namespace Go.Proofs.YtjigflnjgmgmnaaDoor
open Go Go.Gh Go.ChangeShapes Go.WideShapes Go.ChangeAt Go.RowKit
theorem own1 : ownKnob Tryd.prog.godebug = none := by kernel_rfl
theorem laidOut1 : laidOutB Tryd.prog = true := by kernel_rfl
theorem gNob : Tryd.prog.globalNamed "helioscope/cloud.nobody" = some 0 := by kernel_rfl
abbrev tNob : TypeId := 107
theorem tNob_is : (Tryd.prog.globals[0]?).map (·.type) = some tNob := by kernel_rfl
abbrev laidNob : List (String × DataW Unit) := [("helioscope/cloud.nobody", Rows.laid_helioscope_cloud_nobody)]
theorem glob_ok {W : World} (h : laidMetH Tryd.prog laidNob W) {cx : Ctx} (hg : cx.glob = globs) : GlobOK cx (calm W) := by
 rw [MakeChecks.laidMetH_plain _ _ _ (by kernel_rfl)] at h
 obtain ⟨ps, ⟨g0, t0, cs0, f0, p0, q0, hg0, ht0, hv0, hd0, _, _⟩, _, _⟩ := h
 obtain rfl := Option.some.inj (gNob.symm.trans hg0)
 obtain rfl := Option.some.inj (tNob_is.symm.trans ht0)
 have u0 : Tryd.prog.underlying tNob = some (.struct #[{ name := "day", type := 3, offset := 0, embedded := false, tag := "", pkgPath := "helioscope/cloud", byteOffset := 0 }, { name := "number", type := 3, offset := 1, embedded := false, tag := "", pkgPath := "helioscope/cloud", byteOffset := 8 }]) := by kernel_rfl
 have u1 : Tryd.prog.underlying 3 = some (.int .i64) := by kernel_rfl
 have c1 : Tryd.prog.cellsOf 3 = 1 := by kernel_rfl
 have c0 : Tryd.prog.cellsOf tNob = 2 := by kernel_rfl
 obtain ⟨xs, n, _, hx, hl, hlen, hf⟩ := DataW.trod_struct u0 hd0
 rw [c0] at hl
 have e1 : DataW.trod (fun _ => ()) Tryd.prog W 0 (fun _ => true) false n 3 ((cs0.toList.drop 0).take (Tryd.prog.cellsOf 3)) = xs[0]? := hf 0 _ rfl
 have e2 : DataW.trod (fun _ => ()) Tryd.prog W 0 (fun _ => true) false n 3 ((cs0.toList.drop 1).take (Tryd.prog.cellsOf 3)) = xs[1]? := hf 1 _ rfl
 rw [c1] at e1 e2
 match xs, hlen with
 | [x1, x2], _ =>
  obtain ⟨n1, q1, r1, _⟩ := DataW.trod_int u1 (x := x1) e1
  obtain ⟨n2, q2, r2, _⟩ := DataW.trod_int u1 (x := x2) e2
  simp only [Rows.laid_helioscope_cloud_nobody, r1, r2, List.map_cons, List.map_nil, Prod.mk.injEq, DataW.agg.injEq, List.cons.injEq, DataW.lit.injEq, Lit.int.injEq, true_and, and_true] at hx
  obtain ⟨⟨h1, h2⟩, _⟩ := hx
  subst h1
  subst h2
  have hcs : cs0.toList = [.int .i64 (-1), .int .i64 0] := by
   match hcc : cs0.toList, hl with
   | [a, b], _ =>
    rw [hcc] at q1 q2
    simp at q1 q2
    rw [q1, q2]
  intro g
  rw [hg]
  unfold globs
  cases hgz : Nat.beq g 0 with
  | true =>
   have := Nat.eq_of_beq_eq_true hgz
   subst this
   simp only [cond_true]
   refine CV.mk (cs := [.pointer (some ⟨0, 0, none⟩)]) ?_ (by simp [ofCells, AV.isAgg])
   unfold CC
   refine ⟨0, 0, [.int .i64 (-1), .int .i64 0], rfl, ?_, fun j v hj => ⟨?_, fun h => h⟩⟩
   ·unfold Enc EncL
    exact ⟨[.int .i64 (-1)], [.int .i64 0], rfl, by unfold Enc; rfl, by unfold EncL; exact ⟨[.int .i64 0], [], rfl, by unfold Enc; rfl, by unfold EncL; rfl⟩⟩
   ·show W.cell? _ = _
    have := World.var?_cell gNob hv0 j
    rw [Nat.zero_add]
    rw [this, ← Array.getElem?_toList, hcs]
    exact hj
  | false =>
   simp only [cond_false]
   refine CV.mk (cs := [.pointer (some ⟨g, 0, none⟩)]) ?_ (by simp [ofCells, AV.isAgg])
   unfold CC
   exact ⟨_, rfl, rfl⟩
end Go.Proofs.YtjigflnjgmgmnaaDoor
/- A world in which the listed variable reads as the cards say. Conditions: as each lemma states. -/
namespace Go.Proofs.YtjigflnjgmgmnaaDoor
open Go Go.Gh Go.ChangeShapes Go.WideShapes Go.ChangeAt Go.RowKit
noncomputable def laidW (os : Os) : World :=
 let w0 := World.holding Tryd.prog os ⟨#[], #[], []⟩
 { w0 with heap := w0.heap.modify 0 fun
    | .cells _ t frozen => .cells #[.int .i64 (-1), .int .i64 0] t frozen
    | o => o }
theorem laidW_met (os : Os) (args : Array Value) : laidMetH Tryd.prog laidNob ((laidW os).forCall (fun _ _ => 0) ⟨#[], args, []⟩).memory :=
 laidMetH_of_parts3 (fuel := 8) (laidMet_of_run' 8 (by kernel_rfl) (by kernel_rfl)) (by kernel_rfl) (by kernel_rfl)
abbrev tyM : Ty := .struct [.int .i64, .slice (.struct [.int .i64, .int .i64])]
end Go.Proofs.YtjigflnjgmgmnaaDoor
