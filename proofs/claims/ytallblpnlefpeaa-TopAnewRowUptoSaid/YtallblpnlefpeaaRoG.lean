/- What the statements of package row share. Conditions: as each lemma states. -/
import Derived.Test.YtallblpnlefpeaaRoK
import Derived.Test.YtallblpnlefpeaaGhH
import Derived.Test.YtallblpnlefpeaaRows
import Derived.JoinedOf
import Derived.JoinedAt
namespace Go.Proofs.Ytallblpnlefpeaa
open Go Go.Gh Go.ChangeShapes Go.WideShapes Go.ChangeAt Go.RowKit
theorem own1 : ownKnob Try.prog.godebug = none := by kernel_rfl
theorem laidOut1 : laidOutB Try.prog = true := by kernel_rfl
theorem glob_ok (W : World) {cx : Ctx} (hg : cx.glob = globs) : GlobOK cx (calm W) := by
 intro g
 rw [hg]
 refine CV.mk (cs := [.pointer (some ⟨g, 0, none⟩)]) ?_ (by simp [globs, ofCells, AV.isAgg])
 unfold globs CC
 exact ⟨_, rfl, rfl⟩
end Go.Proofs.Ytallblpnlefpeaa
