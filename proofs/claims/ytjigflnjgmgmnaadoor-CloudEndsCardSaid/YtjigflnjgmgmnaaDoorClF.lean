/- The examples hold, and CloudNumbers returns true. Conditions: as each lemma states. -/
import Derived.Test.YtjigflnjgmgmnaaDoorClT
namespace Go.Proofs.YtjigflnjgmgmnaaDoor
open Go Go.Gh Go.Proofs
def mE (h : Int) : Int × List Sp × Unit := (10, [(2, 30, ()), (0, 0, ()), (1, 45, ()), (0, 0, ()), (3, h, ()), (2, 50, ())], ())
theorem L37 (h : Int) : F37 ((h, ()) : Int × Unit) = some (mE h, ()) := ghost_eq (Ev.eq (fun _ => E37 _ _) (Ev.all fun _ => by first | rfl | trivial))
theorem L38 (a b : Int) : F38 ((a, b, ()) : Int × Int × Unit) = some (sp a b, ()) := ghost_eq (Ev.eq (fun _ => E38 _ _ _) (Ev.all fun _ => by first | rfl | trivial))
theorem L91 (a b : Int) : F91 ((a, b, ()) : Int × Int × Unit) = some (sp a b, ()) := ghost_eq (Ev.eq (fun _ => E91 _ _ _) (Ev.all fun _ => by first | rfl | trivial))
theorem A1 : numP (mE 55) 3 = (sp 45 60, 0, ()) := by kernel_rfl
theorem A2 : monthP (mE 55) = (sp 130 3, sp 95 2, 0, ()) := by kernel_rfl
theorem A3 : toldP (mE 55) 3 50 = (sp 265 6, sp 275 6, 0, ()) := by kernel_rfl
theorem A4 : toldP (mE 55) 3 70 = (z0, z0, 9, ()) := by kernel_rfl
theorem A5 : topsP (mE 55) = ([], [3, 4], 0, ()) := by kernel_rfl
theorem A6 : risesP (mE 55) = ([1, 2], [1, 2, 3, 4], 0, ()) := by kernel_rfl
theorem A7 : askP (mE 55) = (3, 10, 0, ()) := by kernel_rfl
theorem A8 : wrongP (mE 80) = ([4], 0, ()) := by kernel_rfl
theorem A9 : numP (mE 80) 0 = (z0, 8, ()) := by kernel_rfl
theorem L22 : F22 () = some (true, ()) := by
 refine ghost_eq (Ev.eq (fun _ => E22 _) ?_)
 rw [L37, L37]
 simp only [Option.bind_some]
 rw [L20 (mE 55) 3, L20 (mE 80) 0, L23 (mE 55), L25 (mE 55) 3 50, L25 (mE 55) 3 70, L28 (mE 55), L31 (mE 55), L33 (mE 55), L35 (mE 80), A1, A2, A3, A4, A5, A6, A7, A8, A9]
 simp only [Option.bind_some, L38, L91, eqD2]
 simp only [List.replicate_zero]
 rw [L30 _ _ (by decide), L30 _ _ (by decide), L30 _ _ (by decide), L30 _ _ (by decide)]
 exact Ev.all fun _ => by first | rfl | trivial
end Go.Proofs.YtjigflnjgmgmnaaDoor
