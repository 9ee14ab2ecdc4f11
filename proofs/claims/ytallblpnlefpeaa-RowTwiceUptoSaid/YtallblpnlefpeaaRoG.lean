/- What the statements of package row share. Conditions: as each lemma states. -/
import Derived.Test.YtallblpnlefpeaaRoK
import Derived.Test.YtallblpnlefpeaaGhH
import Derived.Test.YtallblpnlefpeaaRows
import Derived.JoinedOf
import Derived.JoinedAt
namespace Go.Proofs.Ytallblpnlefpeaa
open Go Go.Gh Go.ChangeShapes Go.WideShapes Go.ChangeAt Go.RowKit

theorem own1 : ownKnob Try.prog.godebug = none := by kernel_rfl
theorem laidOut1 : laidOutB Try.prog = true := by kernel_rfl
theorem glob_ok (W : World) {cx : Ctx} (hg : cx.glob = globs) : GlobOK cx (calm W) := by
  intro g
  rw [hg]
  refine CV.mk (cs := [.pointer (some ⟨g, 0, none⟩)]) ?_ (by simp [globs, ofCells, AV.isAgg])
  unfold globs CC
  exact ⟨_, rfl, rfl⟩
abbrev tyB : Ty := .struct [.slice (.struct [.int .i64, .bool]), .slice (.slice (.struct [.int .i64, .int .i64, .int .i64]))]
theorem u8_in {n : Int} (h : wfD (.int .u8) n) : 0 ≤ n ∧ n ≤ 255 := by
  unfold wfD at h
  simp only [Lit.wf, Bool.and_eq_true, decide_eq_true_eq] at h
  exact h
theorem u8l_in {x : List Int} (h : wfD (.slice (.int .u8)) x) : ∀ v ∈ x, 0 ≤ v ∧ v ≤ 255 := by
  unfold wfD at h
  exact fun v hv => u8_in (h.2 v hv)
end Go.Proofs.Ytallblpnlefpeaa
