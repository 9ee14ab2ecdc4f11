/- Rows struck out, the examples' book, and what Awake asks. Conditions: as each lemma states. -/
import Derived.Test.YtallblpnlefpeaaRoV
import Derived.Test.YtallblpnlefpeaaRoF
namespace Go.Proofs.Ytallblpnlefpeaa
open Go Go.Gh Go.Proofs Go.Few
def strk (rs : List Rw) (x : Int) : List Rw := rs.set x.toNat ((rs.getD x.toNat rw0).1, true, ())
def strP (l : List Int) (rs : List Rw) : List Rw := l.foldl strk rs
def withB (b : Bk) (l : List Int) : Bk := (strP l b.1, b.2.1, ())
theorem L44 (b : Bk) (hb : b.1.length ≤ 1000000) (l : List Int) (hl : ∀ x ∈ l, 0 ≤ x ∧ x < b.1.length) (hn : l.length ≤ 1000000) : F44 ((b, l, ()) : Bk × List Int × Unit) = some (withB b l, ()) := by
 refine ghost_eq (Ev.eq (fun _ => E44 _ _ _) ?_)
 rw [dec_t (show b.1.length ≤ 2147483648 by omega)]
 have key : ∀ (e i : Nat), i + e = l.length → ∀ rs : List Rw, rs.length = b.1.length → strP (l.drop i) rs = strP l b.1 → Ev fun f => T44_0 l i b.2.1 ([], [], ()) rs f = some (withB b l, ()) := by
  intro e
  induction e with
  | zero =>
   intro i hi rs hd he
   refine U44_0 _ _ _ _ _ (Ev.eq (fun _ => Q44_0 _ _ _ _ _ _) ?_)
   rw [List.drop_eq_nil_of_le (by omega)] at he
   rw [dec_f (by omega), show rs = strP l b.1 from he]
   exact Ev.all fun _ => by first | rfl | trivial
  | succ e ih =>
   intro i hi rs hd he
   refine U44_0 _ _ _ _ _ (Ev.eq (fun _ => Q44_0 _ _ _ _ _ _) ?_)
   have hlt : i < l.length := by omega
   have hx := hl l[i] (List.getElem_mem hlt)
   rw [List.drop_eq_getElem_cons hlt] at he
   rw [Int.toNat_natCast, getD_lt hlt, wrap_succ (n := i) (by omega), dec_t (show (i : Int) < (l.length : Int) by omega), dec_t (show (0 : Int) ≤ (i : Int) by omega), dec_t (show (0 : Int) ≤ l[i] by omega), dec_t (show l[i] < (rs.length : Int) by omega), dec_t (show l[i].toNat < rs.length by omega)]
   exact ih (i + 1) (by omega) (strk rs l[i]) (by rw [strk, List.length_set, hd]) he
 exact key l.length 0 (by omega) b.1 rfl rfl
def exB (two : Int) : Bk := ([(5, false, ()), (7, false, ()), (two, false, ()), (4, false, ())], [[(0, 3, 0, ()), (0, 4, 0, ())], [(0, 8, 1, ())], [(1, 8, 1, ())]], ())
theorem L38 (two : Int) : F38 ((two, ()) : Int × Unit) = some (exB two, ()) := by
 refine ghost_eq (Ev.eq (fun _ => E38 _ _) ?_)
 exact Ev.all fun _ => by first | rfl | trivial
theorem x1 : valueP (exB 12) 1 = (16, 0, ()) := by decide +kernel
theorem x2 : clashR (exB 12) = (0, 0, 0, 9, ()) := by decide +kernel
theorem x3 : clashR (exB 13) = (0, 0, 1, 0, ()) := by decide +kernel
theorem x4 : againP (exB 12) 0 = ([0, 1, 2], 0, ()) := by decide +kernel
theorem x5 : strikeP (exB 12) 0 = ([], 0, ()) := by decide +kernel
theorem x6 : strikeP (exB 12) 3 = ([1, 2], 0, ()) := by decide +kernel
theorem x7 : strikeP (exB 13) 0 = ([0, 1, 2], 0, ()) := by decide +kernel
theorem x8 : groundP (exB 12) 1 = ([2, 3], 0, ()) := by decide +kernel
theorem x9 : needsP (exB 12) 1 = ([3], 0, ()) := by decide +kernel
theorem x10 : cutP (exB 12) 0 = ([0, 2], 0, ()) := by decide +kernel
theorem x11 : wrongP (exB 13) = ([0], 0, ()) := by decide +kernel
theorem x12 : valueP (withB (exB 12) [3]) 1 = (0, 8, ()) := by decide +kernel
theorem L24 : F24 () = some (true, ()) := by
 refine ghost_eq (Ev.eq (fun _ => E24 _) ?_)
 rw [L38, L38]
 simp only [Option.bind_some]
 rw [show (3 :: List.replicate 0 0 : List Int) = [3] from rfl, L44 (exB 12) (by decide) [3] (by decide) (by decide), L20, L22, L22, L25, L28, L28, L28, L30, L32, L34, L36]
 simp only [Option.bind_some]
 rw [L20, x1, x2, x3, x4, x5, x6, x7, x8, x9, x10, x11, x12]
 simp only [L27 _ _ (show ([0, 1, 2] : List Int).length < 1000000 by decide), L27 _ _ (show ([1, 2] : List Int).length < 1000000 by decide), L27 _ _ (show ([2, 3] : List Int).length < 1000000 by decide), L27 _ _ (show ([3] : List Int).length < 1000000 by decide), L27 _ _ (show ([0, 2] : List Int).length < 1000000 by decide), L27 _ _ (show ([0] : List Int).length < 1000000 by decide), Option.bind_some]
 exact Ev.all fun _ => by first | rfl | trivial | decide
end Go.Proofs.Ytallblpnlefpeaa
