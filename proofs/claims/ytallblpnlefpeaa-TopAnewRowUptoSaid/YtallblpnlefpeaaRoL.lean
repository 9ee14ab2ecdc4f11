/- States at the cuts. Conditions: none. -/
import Derived.Test.YtallblpnlefpeaaRoA
import Derived.Test.YtallblpnlefpeaaGhI
namespace Go.Proofs.Ytallblpnlefpeaa
open Go Go.Gh Go.Proofs
noncomputable abbrev T111_0 (t3 : Int) (h0 : (Option (Bk × Unit))) (h1 : Wy) (h2 : (List Fd)) (h3 : Fd) (h7 : Int) (f : Nat) : Option (denL [tFd]) := iter cx86 S111 [tFd] 6000 f 0 K111_0 ((((), ((), (t3, ()))), (((), ((), ((), ((), ())))), ())), (h0, (h1, (h2, (h3, (((), ()), (((), ((), ((), ()))), (((), ((), ())), (h7, ())))))))))
theorem U111_0 (t3 : Int) (h0 : (Option (Bk × Unit))) (h1 : Wy) (h2 : (List Fd)) (h3 : Fd) (h7 : Int) {y : denL [tFd]} (h : Ev fun k => seg cx86 S111 [tFd] 6000 some (iter cx86 S111 [tFd] 6000 k) 0 K111_0 ((((), ((), (t3, ()))), (((), ((), ((), ((), ())))), ())), (h0, (h1, (h2, (h3, (((), ()), (((), ((), ((), ()))), (((), ((), ())), (h7, ()))))))))) = some y) : Ev fun k => T111_0 t3 h0 h1 h2 h3 h7 k = some y := iter_ev h
noncomputable abbrev T111_1 (t3 : Int) (h0 : (Option (Bk × Unit))) (h1 : Wy) (h2 : (List Fd)) (h3 : Fd) (h7 : Int) (f : Nat) : Option (denL [tFd]) := iter cx86 S111 [tFd] 6000 f 1 K111_1 ((((), ((), (t3, ()))), (((), ((), ((), ((), ())))), ())), (h0, (h1, (h2, (h3, (((), ()), (((), ((), ((), ()))), (((), ((), ())), (h7, ())))))))))
theorem U111_1 (t3 : Int) (h0 : (Option (Bk × Unit))) (h1 : Wy) (h2 : (List Fd)) (h3 : Fd) (h7 : Int) {y : denL [tFd]} (h : Ev fun k => seg cx86 S111 [tFd] 6000 some (iter cx86 S111 [tFd] 6000 k) 1 K111_1 ((((), ((), (t3, ()))), (((), ((), ((), ((), ())))), ())), (h0, (h1, (h2, (h3, (((), ()), (((), ((), ((), ()))), (((), ((), ())), (h7, ()))))))))) = some y) : Ev fun k => T111_1 t3 h0 h1 h2 h3 h7 k = some y := iter_ev h
noncomputable abbrev T111_2 (t3 : Int) (h0 : (Option (Bk × Unit))) (h1 : Wy) (h2 : (List Fd)) (h3 : Fd) (h7 : Int) (f : Nat) : Option (denL [tFd]) := iter cx86 S111 [tFd] 6000 f 2 K111_2 ((((), ((), (t3, ()))), (((), ((), ((), ((), ())))), ())), (h0, (h1, (h2, (h3, (((), ()), (((), ((), ((), ()))), (((), ((), ())), (h7, ())))))))))
theorem U111_2 (t3 : Int) (h0 : (Option (Bk × Unit))) (h1 : Wy) (h2 : (List Fd)) (h3 : Fd) (h7 : Int) {y : denL [tFd]} (h : Ev fun k => seg cx86 S111 [tFd] 6000 some (iter cx86 S111 [tFd] 6000 k) 2 K111_2 ((((), ((), (t3, ()))), (((), ((), ((), ((), ())))), ())), (h0, (h1, (h2, (h3, (((), ()), (((), ((), ((), ()))), (((), ((), ())), (h7, ()))))))))) = some y) : Ev fun k => T111_2 t3 h0 h1 h2 h3 h7 k = some y := iter_ev h
noncomputable abbrev T111_3 (t3 : Int) (h0 : (Option (Bk × Unit))) (h1 : Wy) (h2 : (List Fd)) (h3 : Fd) (h7 : Int) (f : Nat) : Option (denL [tFd]) := iter cx86 S111 [tFd] 6000 f 3 K111_3 ((((), ((), (t3, ()))), (((), ((), ((), ((), ())))), ())), (h0, (h1, (h2, (h3, (((), ()), (((), ((), ((), ()))), (((), ((), ())), (h7, ())))))))))
theorem U111_3 (t3 : Int) (h0 : (Option (Bk × Unit))) (h1 : Wy) (h2 : (List Fd)) (h3 : Fd) (h7 : Int) {y : denL [tFd]} (h : Ev fun k => seg cx86 S111 [tFd] 6000 some (iter cx86 S111 [tFd] 6000 k) 3 K111_3 ((((), ((), (t3, ()))), (((), ((), ((), ((), ())))), ())), (h0, (h1, (h2, (h3, (((), ()), (((), ((), ((), ()))), (((), ((), ())), (h7, ()))))))))) = some y) : Ev fun k => T111_3 t3 h0 h1 h2 h3 h7 k = some y := iter_ev h
noncomputable abbrev T111_4 (t3 : Int) (h0 : (List Fd)) (h1 : Fd) (h5 : Int) (f : Nat) : Option (denL [tFd]) := iter cx86 S111 [tFd] 6000 f 4 K111_4 ((((), ((), (t3, ()))), (((), ()), ())), (h0, (h1, (((), ()), (((), ((), ((), ()))), (((), ((), ((), ()))), (h5, ())))))))
theorem U111_4 (t3 : Int) (h0 : (List Fd)) (h1 : Fd) (h5 : Int) {y : denL [tFd]} (h : Ev fun k => seg cx86 S111 [tFd] 6000 some (iter cx86 S111 [tFd] 6000 k) 4 K111_4 ((((), ((), (t3, ()))), (((), ()), ())), (h0, (h1, (((), ()), (((), ((), ((), ()))), (((), ((), ((), ()))), (h5, ()))))))) = some y) : Ev fun k => T111_4 t3 h0 h1 h5 k = some y := iter_ev h
noncomputable abbrev T111_5 (t3 : Int) (h0 : (Option (Bk × Unit))) (h1 : Wy) (h2 : (List Fd)) (h3 : Fd) (h7 : Int) (f : Nat) : Option (denL [tFd]) := iter cx86 S111 [tFd] 6000 f 5 K111_5 ((((), ((), (t3, ()))), (((), ((), ((), ((), ())))), ())), (h0, (h1, (h2, (h3, (((), ()), (((), ((), ((), ()))), (((), ((), ())), (h7, ())))))))))
theorem U111_5 (t3 : Int) (h0 : (Option (Bk × Unit))) (h1 : Wy) (h2 : (List Fd)) (h3 : Fd) (h7 : Int) {y : denL [tFd]} (h : Ev fun k => seg cx86 S111 [tFd] 6000 some (iter cx86 S111 [tFd] 6000 k) 5 K111_5 ((((), ((), (t3, ()))), (((), ((), ((), ((), ())))), ())), (h0, (h1, (h2, (h3, (((), ()), (((), ((), ((), ()))), (((), ((), ())), (h7, ()))))))))) = some y) : Ev fun k => T111_5 t3 h0 h1 h2 h3 h7 k = some y := iter_ev h
noncomputable abbrev T111_6 (t3 : Int) (h0 : (List Fd)) (h1 : Fd) (h5 : Int) (f : Nat) : Option (denL [tFd]) := iter cx86 S111 [tFd] 6000 f 6 K111_6 ((((), ((), (t3, ()))), (((), ()), ())), (h0, (h1, (((), ()), (((), ((), ((), ()))), (((), ((), ((), ()))), (h5, ())))))))
theorem U111_6 (t3 : Int) (h0 : (List Fd)) (h1 : Fd) (h5 : Int) {y : denL [tFd]} (h : Ev fun k => seg cx86 S111 [tFd] 6000 some (iter cx86 S111 [tFd] 6000 k) 6 K111_6 ((((), ((), (t3, ()))), (((), ()), ())), (h0, (h1, (((), ()), (((), ((), ((), ()))), (((), ((), ((), ()))), (h5, ()))))))) = some y) : Ev fun k => T111_6 t3 h0 h1 h5 k = some y := iter_ev h
noncomputable abbrev T111_7 (t3 : Int) (h0 : (Option (Bk × Unit))) (h1 : Wy) (h2 : (List Fd)) (h3 : Fd) (h7 : Int) (f : Nat) : Option (denL [tFd]) := iter cx86 S111 [tFd] 6000 f 7 K111_7 ((((), ((), (t3, ()))), (((), ((), ((), ((), ())))), ())), (h0, (h1, (h2, (h3, (((), ()), (((), ((), ((), ()))), (((), ((), ())), (h7, ())))))))))
theorem U111_7 (t3 : Int) (h0 : (Option (Bk × Unit))) (h1 : Wy) (h2 : (List Fd)) (h3 : Fd) (h7 : Int) {y : denL [tFd]} (h : Ev fun k => seg cx86 S111 [tFd] 6000 some (iter cx86 S111 [tFd] 6000 k) 7 K111_7 ((((), ((), (t3, ()))), (((), ((), ((), ((), ())))), ())), (h0, (h1, (h2, (h3, (((), ()), (((), ((), ((), ()))), (((), ((), ())), (h7, ()))))))))) = some y) : Ev fun k => T111_7 t3 h0 h1 h2 h3 h7 k = some y := iter_ev h
noncomputable abbrev T111_8 (t3 : Int) (h0 : (List Fd)) (h1 : Fd) (h5 : Int) (f : Nat) : Option (denL [tFd]) := iter cx86 S111 [tFd] 6000 f 8 K111_8 ((((), ((), (t3, ()))), (((), ()), ())), (h0, (h1, (((), ()), (((), ((), ((), ()))), (((), ((), ((), ()))), (h5, ())))))))
theorem U111_8 (t3 : Int) (h0 : (List Fd)) (h1 : Fd) (h5 : Int) {y : denL [tFd]} (h : Ev fun k => seg cx86 S111 [tFd] 6000 some (iter cx86 S111 [tFd] 6000 k) 8 K111_8 ((((), ((), (t3, ()))), (((), ()), ())), (h0, (h1, (((), ()), (((), ((), ((), ()))), (((), ((), ((), ()))), (h5, ()))))))) = some y) : Ev fun k => T111_8 t3 h0 h1 h5 k = some y := iter_ev h
noncomputable abbrev T85_0 (t0 : (Option (Bk × Unit))) (t1 : Int) (t28 : (List (List Wy))) (t29 : Int) (t30 : Int) (h0 : (List Fd)) (h1 : (List Fd)) (f : Nat) : Option (denL [(.arr 6 tFd)]) := iter cx111 S85 [(.arr 6 tFd)] 6000 f 0 K85_0 (((t0, (t1, ((), ((), (t28, (t29, (t30, ()))))))), ()), (h0, (h1, ())))
theorem U85_0 (t0 : (Option (Bk × Unit))) (t1 : Int) (t28 : (List (List Wy))) (t29 : Int) (t30 : Int) (h0 : (List Fd)) (h1 : (List Fd)) {y : denL [(.arr 6 tFd)]} (h : Ev fun k => seg cx111 S85 [(.arr 6 tFd)] 6000 some (iter cx111 S85 [(.arr 6 tFd)] 6000 k) 0 K85_0 (((t0, (t1, ((), ((), (t28, (t29, (t30, ()))))))), ()), (h0, (h1, ()))) = some y) : Ev fun k => T85_0 t0 t1 t28 t29 t30 h0 h1 k = some y := iter_ev h
noncomputable abbrev T85_1 (t0 : (Option (Bk × Unit))) (t1 : Int) (t8 : Int) (t28 : (List (List Wy))) (t29 : Int) (t30 : Int) (t35 : (List Wy)) (t36 : Int) (t37 : Int) (h0 : (List Fd)) (h1 : (List Fd)) (f : Nat) : Option (denL [(.arr 6 tFd)]) := iter cx111 S85 [(.arr 6 tFd)] 6000 f 1 K85_1 (((t0, (t1, ((), ((), (t8, (t28, (t29, (t30, (t35, (t36, (t37, ()))))))))))), ()), (h0, (h1, ())))
theorem U85_1 (t0 : (Option (Bk × Unit))) (t1 : Int) (t8 : Int) (t28 : (List (List Wy))) (t29 : Int) (t30 : Int) (t35 : (List Wy)) (t36 : Int) (t37 : Int) (h0 : (List Fd)) (h1 : (List Fd)) {y : denL [(.arr 6 tFd)]} (h : Ev fun k => seg cx111 S85 [(.arr 6 tFd)] 6000 some (iter cx111 S85 [(.arr 6 tFd)] 6000 k) 1 K85_1 (((t0, (t1, ((), ((), (t8, (t28, (t29, (t30, (t35, (t36, (t37, ()))))))))))), ()), (h0, (h1, ()))) = some y) : Ev fun k => T85_1 t0 t1 t8 t28 t29 t30 t35 t36 t37 h0 h1 k = some y := iter_ev h
noncomputable abbrev T18_0 (t19 : (List Rw)) (t20 : Int) (t21 : Int) (u7 : (List Rw)) (h0 : Bk) (f : Nat) : Option (denL [(.int .i64), (.int .i64), (.int .i64)]) := iter cx85 S18 [(.int .i64), (.int .i64), (.int .i64)] 6000 f 0 K18_0 (((((), ()), (t19, (t20, (t21, ())))), (((), (u7, ())), ())), (h0, ()))
theorem U18_0 (t19 : (List Rw)) (t20 : Int) (t21 : Int) (u7 : (List Rw)) (h0 : Bk) {y : denL [(.int .i64), (.int .i64), (.int .i64)]} (h : Ev fun k => seg cx85 S18 [(.int .i64), (.int .i64), (.int .i64)] 6000 some (iter cx85 S18 [(.int .i64), (.int .i64), (.int .i64)] 6000 k) 0 K18_0 (((((), ()), (t19, (t20, (t21, ())))), (((), (u7, ())), ())), (h0, ())) = some y) : Ev fun k => T18_0 t19 t20 t21 u7 h0 k = some y := iter_ev h
noncomputable abbrev T18_1 (t19 : (List (List Wy))) (t20 : Int) (t21 : Int) (u17 : (List (List Wy))) (h0 : Bk) (f : Nat) : Option (denL [(.int .i64), (.int .i64), (.int .i64)]) := iter cx85 S18 [(.int .i64), (.int .i64), (.int .i64)] 6000 f 1 K18_1 (((((), ((), ())), (t19, (t20, (t21, ())))), ((u17, (((), ((), ())), ())), ())), (h0, ()))
theorem U18_1 (t19 : (List (List Wy))) (t20 : Int) (t21 : Int) (u17 : (List (List Wy))) (h0 : Bk) {y : denL [(.int .i64), (.int .i64), (.int .i64)]} (h : Ev fun k => seg cx85 S18 [(.int .i64), (.int .i64), (.int .i64)] 6000 some (iter cx85 S18 [(.int .i64), (.int .i64), (.int .i64)] 6000 k) 1 K18_1 (((((), ((), ())), (t19, (t20, (t21, ())))), ((u17, (((), ((), ())), ())), ())), (h0, ())) = some y) : Ev fun k => T18_1 t19 t20 t21 u17 h0 k = some y := iter_ev h
noncomputable abbrev T18_2 (t19 : (List Wy)) (t20 : Int) (t21 : Int) (u9 : (List Wy)) (v10 : Int) (v19 : (List (List Wy))) (v20 : Int) (v21 : Int) (v27 : Int) (v28 : (List Wy)) (w17 : (List (List Wy))) (h0 : Bk) (h1 : Int) (f : Nat) : Option (denL [(.int .i64), (.int .i64), (.int .i64)]) := iter cx85 S18 [(.int .i64), (.int .i64), (.int .i64)] 6000 f 2 K18_2 (((((), ((), ((), ()))), (t19, (t20, (t21, ())))), ((u9, (((), ((), ((), ()))), ())), ((((), ((), ())), (v10, (v19, (v20, (v21, (((), ((), ())), (v27, (v28, ())))))))), ((w17, (((), ((), ())), ())), ())))), (h0, (h1, ())))
theorem U18_2 (t19 : (List Wy)) (t20 : Int) (t21 : Int) (u9 : (List Wy)) (v10 : Int) (v19 : (List (List Wy))) (v20 : Int) (v21 : Int) (v27 : Int) (v28 : (List Wy)) (w17 : (List (List Wy))) (h0 : Bk) (h1 : Int) {y : denL [(.int .i64), (.int .i64), (.int .i64)]} (h : Ev fun k => seg cx85 S18 [(.int .i64), (.int .i64), (.int .i64)] 6000 some (iter cx85 S18 [(.int .i64), (.int .i64), (.int .i64)] 6000 k) 2 K18_2 (((((), ((), ((), ()))), (t19, (t20, (t21, ())))), ((u9, (((), ((), ((), ()))), ())), ((((), ((), ())), (v10, (v19, (v20, (v21, (((), ((), ())), (v27, (v28, ())))))))), ((w17, (((), ((), ())), ())), ())))), (h0, (h1, ()))) = some y) : Ev fun k => T18_2 t19 t20 t21 u9 v10 v19 v20 v21 v27 v28 w17 h0 h1 k = some y := iter_ev h
noncomputable abbrev T89_0 (t0 : (Option (Bk × Unit))) (t1 : Int) (t22 : (List (List Wy))) (t23 : Int) (t24 : Int) (h0 : (List Fd)) (f : Nat) : Option (denL [(.int .i64), (.int .i64), (.int .i64), .bool]) := iter cx20 S89 [(.int .i64), (.int .i64), (.int .i64), .bool] 6000 f 0 K89_0 (((t0, (t1, ((), (t22, (t23, (t24, ())))))), ()), (h0, ()))
theorem U89_0 (t0 : (Option (Bk × Unit))) (t1 : Int) (t22 : (List (List Wy))) (t23 : Int) (t24 : Int) (h0 : (List Fd)) {y : denL [(.int .i64), (.int .i64), (.int .i64), .bool]} (h : Ev fun k => seg cx20 S89 [(.int .i64), (.int .i64), (.int .i64), .bool] 6000 some (iter cx20 S89 [(.int .i64), (.int .i64), (.int .i64), .bool] 6000 k) 0 K89_0 (((t0, (t1, ((), (t22, (t23, (t24, ())))))), ()), (h0, ())) = some y) : Ev fun k => T89_0 t0 t1 t22 t23 t24 h0 k = some y := iter_ev h
noncomputable abbrev T89_1 (t0 : (Option (Bk × Unit))) (t1 : Int) (t9 : Int) (t10 : (List Wy)) (t22 : (List (List Wy))) (t23 : Int) (t24 : Int) (t30 : Int) (t31 : Int) (h0 : (List Fd)) (f : Nat) : Option (denL [(.int .i64), (.int .i64), (.int .i64), .bool]) := iter cx20 S89 [(.int .i64), (.int .i64), (.int .i64), .bool] 6000 f 1 K89_1 (((t0, (t1, ((), (t9, (t10, (t22, (t23, (t24, (t30, (t31, ())))))))))), ()), (h0, ()))
theorem U89_1 (t0 : (Option (Bk × Unit))) (t1 : Int) (t9 : Int) (t10 : (List Wy)) (t22 : (List (List Wy))) (t23 : Int) (t24 : Int) (t30 : Int) (t31 : Int) (h0 : (List Fd)) {y : denL [(.int .i64), (.int .i64), (.int .i64), .bool]} (h : Ev fun k => seg cx20 S89 [(.int .i64), (.int .i64), (.int .i64), .bool] 6000 some (iter cx20 S89 [(.int .i64), (.int .i64), (.int .i64), .bool] 6000 k) 1 K89_1 (((t0, (t1, ((), (t9, (t10, (t22, (t23, (t24, (t30, (t31, ())))))))))), ()), (h0, ())) = some y) : Ev fun k => T89_1 t0 t1 t9 t10 t22 t23 t24 t30 t31 h0 k = some y := iter_ev h
noncomputable abbrev T89_2 (t0 : (Option (Bk × Unit))) (t1 : Int) (t9 : Int) (t10 : (List Wy)) (t11 : Int) (t13 : Int) (t22 : (List (List Wy))) (t23 : Int) (t24 : Int) (t30 : Int) (t31 : Int) (h0 : (List Fd)) (h1 : Fd) (f : Nat) : Option (denL [(.int .i64), (.int .i64), (.int .i64), .bool]) := iter cx20 S89 [(.int .i64), (.int .i64), (.int .i64), .bool] 6000 f 2 K89_2 (((t0, (t1, ((), (t9, (t10, (t11, ((), (t13, (t22, (t23, (t24, (t30, (t31, ()))))))))))))), ()), (h0, (h1, ())))
theorem U89_2 (t0 : (Option (Bk × Unit))) (t1 : Int) (t9 : Int) (t10 : (List Wy)) (t11 : Int) (t13 : Int) (t22 : (List (List Wy))) (t23 : Int) (t24 : Int) (t30 : Int) (t31 : Int) (h0 : (List Fd)) (h1 : Fd) {y : denL [(.int .i64), (.int .i64), (.int .i64), .bool]} (h : Ev fun k => seg cx20 S89 [(.int .i64), (.int .i64), (.int .i64), .bool] 6000 some (iter cx20 S89 [(.int .i64), (.int .i64), (.int .i64), .bool] 6000 k) 2 K89_2 (((t0, (t1, ((), (t9, (t10, (t11, ((), (t13, (t22, (t23, (t24, (t30, (t31, ()))))))))))))), ()), (h0, (h1, ()))) = some y) : Ev fun k => T89_2 t0 t1 t9 t10 t11 t13 t22 t23 t24 t30 t31 h0 h1 k = some y := iter_ev h
end Go.Proofs.Ytallblpnlefpeaa
/- What a way makes, and all numbers of a book. Conditions: as each lemma states. -/
namespace Go.Proofs.Ytallblpnlefpeaa
open Go Go.Gh Go.Proofs
theorem L78 (lo hi : Int) (l : List Int) (hl : l.length < 1000000000000) : F78 ((lo, hi, l, ()) : Int × Int × List Int × Unit) = some (l.any (fun n => decide (n < lo) || decide (n > hi)), ()) := by
 refine ghost_eq (Ev.eq (fun _ => E78 _ lo hi l) ?_)
 have key : ∀ (c i : Nat), i + c = l.length → Ev fun k => iter cx0 S78 [.bool] 6000 k 0 K78_0 (((lo, (hi, (l, ((l.length : Int), ((i : Int), ()))))), ()), ()) = some ((l.drop i).any (fun n => decide (n < lo) || decide (n > hi)), ()) := by
  intro c
  induction c with
  | zero =>
   intro i hi'
   refine iter_ev (Ev.eq (fun _ => Q78_0 _ _ _ _ _ _) ?_)
   rw [dec_f (by omega), List.drop_eq_nil_of_le (by omega)]
   exact Ev.all fun _ => by first | rfl | trivial
  | succ c ih =>
   intro i hi'
   have hlt : i < l.length := by omega
   refine iter_ev (Ev.eq (fun _ => Q78_0 _ _ _ _ _ _) ?_)
   rw [dec_t (show (i : Int) < (l.length : Int) by omega), dec_t (show (0 : Int) ≤ (i : Int) by omega), wrap_succ (n := i) (by omega), Int.toNat_natCast, getD_lt hlt, List.drop_eq_getElem_cons hlt, List.any_cons]
   simp only [Bool.and_self, cond_true]
   by_cases h1 : l[i] < lo
   ·simp only [dec_t h1, cond_true]
    exact Ev.all fun _ => by simp
   ·simp only [dec_f h1, cond_false]
    by_cases h2 : l[i] > hi
    ·simp only [dec_t h2, cond_true]
     exact Ev.all fun _ => by simp
    ·simp only [dec_f h2, cond_false, Bool.or_self, Bool.false_or]
     exact ih (i + 1) (by omega)
 have := key l.length 0 (by omega)
 rw [List.drop_zero] at this
 exact this
theorem L78_1 (lo hi n : Int) : F78 ((lo, hi, List.set (List.replicate 1 0) 0 n, ()) : Int × Int × List Int × Unit) = some (decide (n < lo) || decide (n > hi), ()) := by
 rw [show List.set (List.replicate 1 (0 : Int)) 0 n = [n] from rfl, L78 _ _ _ (by simp), any1]
theorem L112 (b : Bk) : F112 ((b, ()) : Bk × Unit) = some (some ((b, ()) : Bk × Unit), ()) := by
 refine ghost_eq (Ev.eq (fun _ => E112 _ _) ?_)
 simp only [guardP, if_true]
 exact Ev.all fun _ => by first | rfl | trivial
def standL (b : Bk) : List Int := numsL (fun i => !(b.1.getD i rw0).2.1) b.1.length
def rowsN (b : Bk) : Nat := Few.bitsL (standL b)
theorem L86 (b : Bk) (h8 : b.1.length ≤ 8) : F86 ((some ((b, ()) : Bk × Unit), ()) : Option (Bk × Unit) × Unit) = some ((rowsN b : Int), ()) := by
 refine ghost_eq (Ev.eq (fun _ => E86 _ _) ?_)
 simp only [Option.bind_some]
 have key : ∀ (c i : Nat), i + c = b.1.length → Ev fun k => iter cx112 S86 [(.int .i64)] 6000 k 0 K86_0 ((((Few.bitsL (numsL (fun i => !(b.1.getD i rw0).2.1) i) : Int), (b.1, ((b.1.length : Int), ((i : Int), ())))), ()), ()) = some ((rowsN b : Int), ()) := by
  intro c
  induction c with
  | zero =>
   intro i hi
   obtain rfl : i = b.1.length := by omega
   refine iter_ev (Ev.eq (fun _ => Q86_0 _ _ _ _ _) ?_)
   rw [dec_f (by omega)]
   exact Ev.all fun _ => by first | rfl | trivial
  | succ c ih =>
   intro i hi
   refine iter_ev (Ev.eq (fun _ => Q86_0 _ _ _ _ _) ?_)
   have hn := ih (i + 1) (by omega)
   rw [numsL_succ] at hn
   have hlt : Few.bitsL (numsL (fun i => !(b.1.getD i rw0).2.1) i) < 2 ^ 8 := Few.bitsL_lt fun x hx => by
    obtain ⟨n, h1, _, rfl⟩ := numsL_mem.1 hx
    omega
   rw [dec_t (show (i : Int) < (b.1.length : Int) by omega), dec_t (show (0 : Int) ≤ (i : Int) by omega), dec_f (show ¬ ((i : Int) < 0) by omega), wrap_succ (n := i) (by omega), Int.toNat_natCast, shl_nat i (by omega), or_nat _ _ (by omega) (Nat.lt_of_lt_of_le (Nat.pow_lt_pow_right (by decide) (show i < 8 by omega)) (by decide))]
   rw [show b.1.getD i (0, false, ()) = b.1.getD i rw0 from rfl]
   simp only [Bool.and_self, cond_true, cond_false]
   cases hs : !(b.1.getD i rw0).2.1 with
   | true =>
    rw [hs, if_pos rfl, Few.bitsL_concat, Int.toNat_natCast] at hn
    exact hn
   | false =>
    rw [hs, if_neg (by decide)] at hn
    exact hn
 exact key b.1.length 0 (by omega)
def addP (op : Int) (f : Fd) (x : Int) : Fd := if f = fd0 then (true, x, ()) else (f.1, opP op f.2.1 x, ())
theorem eqF (a b : Fd) : eqD (Ty.struct [Ty.bool, Ty.int IntKind.i64]) a b = decide (a = b) := by
 obtain ⟨x, y, _⟩ := a
 obtain ⟨x', y', _⟩ := b
 simp only [eqD, eqDL, Bool.and_true]
 rw [Bool.eq_iff_iff, Bool.and_eq_true, decide_eq_true_eq]
 constructor
 ·rintro ⟨h1, h2⟩
  have e1 : x = x' := by simpa using h1
  have e2 : y = y' := by simpa using h2
  rw [e1, e2]
 ·intro h
  cases h
  exact ⟨by simp, by simp⟩
def foldB (op : Int) (n : Nat) (v : Nat → Int) : Nat → Nat → Fd → Fd
 | 0, _, f => f
 | e + 1, i, f => foldB op n v e (i + 1) (if n.testBit i = true then addP op f (v i) else f)
def numB (op : Int) (n : Nat) (l : List Fd) : Nat → Nat → Fd → Fd
 | 0, _, f => f
 | e + 1, i, f => if n.testBit i = true then (if (l.getD i fd0).1 = false then fd0 else numB op n l e (i + 1) (addP op f (l.getD i fd0).2.1)) else numB op n l e (i + 1) f
theorem bit_small {n i j : Nat} (h : n / 2 ^ i = 0) (hj : i ≤ j) : n.testBit j = false := by
 have h1 : n < 2 ^ i := by
  rcases Nat.div_eq_zero_iff.1 h with h | h
  ·exact absurd h (Nat.ne_of_gt (Nat.two_pow_pos i))
  ·exact h
 exact Nat.testBit_lt_two_pow (Nat.lt_of_lt_of_le h1 (Nat.pow_le_pow_right (by decide) hj))
theorem foldB_zero {op : Int} {n : Nat} {v : Nat → Int} {f : Fd} : ∀ {e i : Nat}, n / 2 ^ i = 0 → foldB op n v e i f = f
 | 0, _, _ => rfl
 | e + 1, i, h => by
  rw [foldB, bit_small h (Nat.le_refl _), if_neg (by decide)]
  exact foldB_zero (by rw [Nat.pow_succ, ← Nat.div_div_eq_div_mul, h, Nat.zero_div])
theorem numB_zero {op : Int} {n : Nat} {l : List Fd} {f : Fd} : ∀ {e i : Nat}, n / 2 ^ i = 0 → numB op n l e i f = f
 | 0, _, _ => rfl
 | e + 1, i, h => by
  rw [numB, bit_small h (Nat.le_refl _), if_neg (by decide)]
  exact numB_zero (by rw [Nat.pow_succ, ← Nat.div_div_eq_div_mul, h, Nat.zero_div])
theorem bit_lt {n i k : Nat} (h : n.testBit i = true) (hn : n < 2 ^ k) : i < k := by
 apply Classical.byContradiction
 intro hk
 rw [Nat.testBit_lt_two_pow (Nat.lt_of_lt_of_le hn (Nat.pow_le_pow_right (by decide) (by omega)))] at h
 cases h
theorem add_bd {op : Int} {f : Fd} {x B C : Int} (h0 : 0 ≤ f.2.1) (h1 : f.2.1 ≤ B) (x0 : 0 ≤ x) (x1 : x ≤ C) (hC : 0 ≤ B) : 0 ≤ (addP op f x).2.1 ∧ (addP op f x).2.1 ≤ B + C := by
 unfold addP opP
 split
 ·simp only; omega
 ·simp only
  split
  ·omega
  ·split
   ·split <;> omega
   ·split <;> omega
theorem makeN0 (y : denL [(.struct [.bool, (.int .i64)])]) (l : List Fd) (hl : ∀ i, i < 6 → 0 ≤ (l.getD i fd0).2.1 ∧ (l.getD i fd0).2.1 ≤ 1000000) (n : Nat) (hn : n < 2 ^ 6) : ∀ (e i : Nat) (f : Fd), i + e = 6 → 0 ≤ f.2.1 → f.2.1 ≤ 1000 + 1000000 * (i : Int) → y = (numB 0 n l e i f, ()) → Ev fun k => T111_4 i l f n k = some y := by
 intro e
 induction e with
 | zero =>
  intro i f hi h0 h1 hy
  refine U111_4 _ _ _ _ (Ev.eq (fun _ => Q111_4 _ _ _ _ _) ?_)
  obtain rfl : i = 6 := by omega
  rw [dec_f (show ¬ (((6 : Nat) : Int) < 0) by omega), Int.toNat_natCast, fdiv_pow n 6 (by omega), Nat.div_eq_of_lt hn, hy]
  exact Ev.all fun _ => by first | rfl | trivial
 | succ e ih =>
  intro i f hi h0 h1 hy
  refine U111_4 _ _ _ _ (Ev.eq (fun _ => Q111_4 _ _ _ _ _) ?_)
  have hb := bit_ok n i (by omega) (by omega)
  have hv := hl i (by omega)
  rw [dec_f (show ¬ ((i : Int) < 0) by omega), Int.toNat_natCast, hb, fdiv_pow n i (by omega), dec_t (show (0 : Int) ≤ (i : Int) by omega), dec_t (show (i : Int) < 6 by omega), dec_t (show i < 6 by omega), wrap_succ (n := i) (by omega), eqF]
  rw [show l.getD i (false, 0, ()) = l.getD i fd0 from rfl]
  simp only [cond_false, Bool.and_self, cond_true]
  by_cases hz : n / 2 ^ i = 0
  ·rw [dec_f (by rw [hz]; decide), hy, numB_zero hz]
   exact Ev.all fun _ => by first | rfl | trivial
  ·rw [dec_t (Int.natCast_pos.2 (Nat.pos_of_ne_zero hz))]
   simp only [cond_true]
   rw [numB] at hy
   cases hbit : n.testBit i with
   | false =>
    rw [hbit, if_neg (by decide)] at hy
    exact ih (i + 1) f (by omega) h0 (by omega) hy
   | true =>
    rw [hbit, if_pos rfl] at hy
    cases hs : (l.getD i fd0).1 with
    | false =>
     rw [hs, if_pos rfl] at hy
     rw [hy]
     exact Ev.all fun _ => by first | rfl | trivial
    | true =>
     rw [hs, if_neg (by decide)] at hy
     have hbd := add_bd (op := 0) (f := f) (x := (l.getD i fd0).2.1) (B := 1000 + 1000000 * (i : Int)) (C := 1000000) h0 h1 hv.1 hv.2 (by omega)
     have hn := ih (i + 1) (addP 0 f (l.getD i fd0).2.1) (by omega) hbd.1 (by omega) hy
     simp only [cond_true, Bool.not_true, cond_false]
     unfold addP at hn
     by_cases hf : f = fd0
     ·rw [if_pos hf] at hn
      rw [dec_t (show f = (false, 0, ()) from hf)]
      exact hn
     ·rw [if_neg hf] at hn
      rw [dec_f (show ¬ f = (false, 0, ()) from hf)]
      rw [wrap_id (by omega) (by omega)]
      exact hn
theorem makeR0 (y : denL [(.struct [.bool, (.int .i64)])]) (b : Bk) (w : Wy) (l : List Fd) (h8 : b.1.length ≤ 8) (hb : ∀ i, i < b.1.length → 0 ≤ (b.1.getD i rw0).1 ∧ (b.1.getD i rw0).1 ≤ 99) (hl : ∀ i, i < 6 → 0 ≤ (l.getD i fd0).2.1 ∧ (l.getD i fd0).2.1 ≤ 1000000) (n m : Nat) (hn : n < 2 ^ b.1.length) (hm : w.2.2.1 = m) (hm6 : m < 2 ^ 6) : ∀ (e i : Nat) (f : Fd), i + e = 8 → 0 ≤ f.2.1 → f.2.1 ≤ 99 * (i : Int) → y = (numB 0 m l 6 0 (foldB 0 n (fun i => (b.1.getD i rw0).1) e i f), ()) → Ev fun k => T111_3 i (some (b, ())) w l f n k = some y := by
 intro e
 induction e with
 | zero =>
  intro i f hi h0 h1 hy
  refine U111_3 _ _ _ _ _ _ (Ev.eq (fun _ => Q111_3 _ _ _ _ _ _ _) ?_)
  obtain rfl : i = 8 := by omega
  have hn8 : n < 2 ^ 8 := Nat.lt_of_lt_of_le hn (Nat.pow_le_pow_right (by decide) h8)
  rw [dec_f (show ¬ (((8 : Nat) : Int) < 0) by omega), Int.toNat_natCast, fdiv_pow n 8 (by omega), Nat.div_eq_of_lt hn8, hm]
  exact makeN0 y l hl m hm6 6 0 f (by omega) h0 (by omega) hy
 | succ e ih =>
  intro i f hi h0 h1 hy
  refine U111_3 _ _ _ _ _ _ (Ev.eq (fun _ => Q111_3 _ _ _ _ _ _ _) ?_)
  have hn8 : n < 2 ^ 8 := Nat.lt_of_lt_of_le hn (Nat.pow_le_pow_right (by decide) h8)
  have hbk := bit_ok n i (by omega) (by omega)
  rw [dec_f (show ¬ ((i : Int) < 0) by omega), Int.toNat_natCast, hbk, fdiv_pow n i (by omega), dec_t (show (0 : Int) ≤ (i : Int) by omega), wrap_succ (n := i) (by omega), eqF]
  simp only [cond_false, Option.bind_some, Bool.true_and]
  rw [show b.1.getD i (0, false, ()) = b.1.getD i rw0 from rfl]
  by_cases hz : n / 2 ^ i = 0
  ·rw [dec_f (by rw [hz]; decide), hm]
   rw [foldB_zero hz] at hy
   exact makeN0 y l hl m hm6 6 0 f (by omega) h0 (by omega) hy
  ·rw [dec_t (Int.natCast_pos.2 (Nat.pos_of_ne_zero hz))]
   simp only [cond_true]
   rw [foldB] at hy
   cases hbit : n.testBit i with
   | false =>
    rw [hbit, if_neg (by decide)] at hy
    exact ih (i + 1) f (by omega) h0 (by omega) hy
   | true =>
    have hlt := bit_lt hbit hn
    have hv := hb i hlt
    rw [hbit, if_pos rfl] at hy
    rw [dec_t (show (i : Int) < (b.1.length : Int) by omega)]
    have hbd := add_bd (op := 0) (f := f) (x := (b.1.getD i rw0).1) (B := 99 * (i : Int)) (C := 99) h0 h1 hv.1 hv.2 (by omega)
    have hn := ih (i + 1) (addP 0 f (b.1.getD i rw0).1) (by omega) hbd.1 (by omega) hy
    simp only [cond_true]
    unfold addP at hn
    by_cases hf : f = fd0
    ·rw [if_pos hf] at hn
     rw [dec_t (show f = (false, 0, ()) from hf)]
     exact hn
    ·rw [if_neg hf] at hn
     rw [dec_f (show ¬ f = (false, 0, ()) from hf)]
     rw [wrap_id (by omega) (by omega)]
     exact hn
theorem makeR0s (y : denL [(.struct [.bool, (.int .i64)])]) (b : Bk) (w : Wy) (l : List Fd) (h8 : b.1.length ≤ 8) (hb : ∀ i, i < b.1.length → 0 ≤ (b.1.getD i rw0).1 ∧ (b.1.getD i rw0).1 ≤ 99) (hl : ∀ i, i < 6 → 0 ≤ (l.getD i fd0).2.1 ∧ (l.getD i fd0).2.1 ≤ 1000000) (n m : Nat) (hn : n < 2 ^ b.1.length) (hm : w.2.2.1 = m) (hm6 : m < 2 ^ 6) : ∀ (f : Fd), f = fd0 → y = (numB 0 m l 6 0 (foldB 0 n (fun i => (b.1.getD i rw0).1) 8 0 f), ()) → Ev fun k => T111_0 0 (some (b, ())) w l f n k = some y := by
  intro f hf0 hy
  have h0 : 0 ≤ f.2.1 := by rw [hf0]; decide
  have h1 : f.2.1 ≤ 99 * ((0 : Nat) : Int) := by rw [hf0]; decide
  obtain ⟨i, hi⟩ : ∃ i : Nat, i = 0 := ⟨0, rfl⟩
  have key := makeR0 y b w l h8 hb hl n m hn hm hm6 7 (i + 1)
  rw [show (0 : Int) = (i : Int) by omega]
  have hy2 : y = (numB 0 m l 6 0 (foldB 0 n (fun i => (b.1.getD i rw0).1) (7 + 1) i f), ()) := by rw [hi]; exact hy
  clear hy
  have hy := hy2
  clear hy2
  rw [show (0 : Nat) = i from hi.symm] at h1
  refine U111_0 _ _ _ _ _ _ (Ev.eq (fun _ => Q111_0 _ _ _ _ _ _ _) ?_)
  have hn8 : n < 2 ^ 8 := Nat.lt_of_lt_of_le hn (Nat.pow_le_pow_right (by decide) h8)
  have hbk := bit_ok n i (by omega) (by omega)
  rw [dec_f (show ¬ ((i : Int) < 0) by omega), Int.toNat_natCast, hbk, fdiv_pow n i (by omega), dec_t (show (0 : Int) ≤ (i : Int) by omega), wrap_succ (n := i) (by omega), eqF]
  simp only [cond_false, Option.bind_some, Bool.true_and]
  rw [show b.1.getD i (0, false, ()) = b.1.getD i rw0 from rfl]
  by_cases hz : n / 2 ^ i = 0
  ·rw [dec_f (by rw [hz]; decide), hm]
   rw [foldB_zero hz] at hy
   exact makeN0 y l hl m hm6 6 0 f (by omega) h0 (by omega) hy
  ·rw [dec_t (Int.natCast_pos.2 (Nat.pos_of_ne_zero hz))]
   simp only [cond_true]
   rw [foldB] at hy
   cases hbit : n.testBit i with
   | false =>
    rw [hbit, if_neg (by decide)] at hy
    exact key f (by omega) h0 (by omega) hy
   | true =>
    have hlt := bit_lt hbit hn
    have hv := hb i hlt
    rw [hbit, if_pos rfl] at hy
    rw [dec_t (show (i : Int) < (b.1.length : Int) by omega)]
    have hbd := add_bd (op := 0) (f := f) (x := (b.1.getD i rw0).1) (B := 99 * (i : Int)) (C := 99) h0 h1 hv.1 hv.2 (by omega)
    have hn := key (addP 0 f (b.1.getD i rw0).1) (by omega) hbd.1 (by omega) hy
    simp only [cond_true]
    unfold addP at hn
    by_cases hf : f = fd0
    ·rw [if_pos hf] at hn
     rw [dec_t (show f = (false, 0, ()) from hf)]
     exact hn
    ·rw [if_neg hf] at hn
     rw [dec_f (show ¬ f = (false, 0, ()) from hf)]
     rw [wrap_id (by omega) (by omega)]
     exact hn
theorem makeN1 (y : denL [(.struct [.bool, (.int .i64)])]) (l : List Fd) (hl : ∀ i, i < 6 → 0 ≤ (l.getD i fd0).2.1 ∧ (l.getD i fd0).2.1 ≤ 1000000) (n : Nat) (hn : n < 2 ^ 6) : ∀ (e i : Nat) (f : Fd), i + e = 6 → 0 ≤ f.2.1 → f.2.1 ≤ 1000 + 1000000 * (i : Int) → y = (numB 1 n l e i f, ()) → Ev fun k => T111_6 i l f n k = some y := by
 intro e
 induction e with
 | zero =>
  intro i f hi h0 h1 hy
  refine U111_6 _ _ _ _ (Ev.eq (fun _ => Q111_6 _ _ _ _ _) ?_)
  obtain rfl : i = 6 := by omega
  rw [dec_f (show ¬ (((6 : Nat) : Int) < 0) by omega), Int.toNat_natCast, fdiv_pow n 6 (by omega), Nat.div_eq_of_lt hn, hy]
  exact Ev.all fun _ => by first | rfl | trivial
 | succ e ih =>
  intro i f hi h0 h1 hy
  refine U111_6 _ _ _ _ (Ev.eq (fun _ => Q111_6 _ _ _ _ _) ?_)
  have hb := bit_ok n i (by omega) (by omega)
  have hv := hl i (by omega)
  rw [dec_f (show ¬ ((i : Int) < 0) by omega), Int.toNat_natCast, hb, fdiv_pow n i (by omega), dec_t (show (0 : Int) ≤ (i : Int) by omega), dec_t (show (i : Int) < 6 by omega), dec_t (show i < 6 by omega), wrap_succ (n := i) (by omega), eqF]
  rw [show l.getD i (false, 0, ()) = l.getD i fd0 from rfl]
  simp only [cond_false, Bool.and_self, cond_true]
  by_cases hz : n / 2 ^ i = 0
  ·rw [dec_f (by rw [hz]; decide), hy, numB_zero hz]
   exact Ev.all fun _ => by first | rfl | trivial
  ·rw [dec_t (Int.natCast_pos.2 (Nat.pos_of_ne_zero hz))]
   simp only [cond_true]
   rw [numB] at hy
   cases hbit : n.testBit i with
   | false =>
    rw [hbit, if_neg (by decide)] at hy
    exact ih (i + 1) f (by omega) h0 (by omega) hy
   | true =>
    rw [hbit, if_pos rfl] at hy
    cases hs : (l.getD i fd0).1 with
    | false =>
     rw [hs, if_pos rfl] at hy
     rw [hy]
     exact Ev.all fun _ => by first | rfl | trivial
    | true =>
     rw [hs, if_neg (by decide)] at hy
     have hbd := add_bd (op := 1) (f := f) (x := (l.getD i fd0).2.1) (B := 1000 + 1000000 * (i : Int)) (C := 1000000) h0 h1 hv.1 hv.2 (by omega)
     have hn := ih (i + 1) (addP 1 f (l.getD i fd0).2.1) (by omega) hbd.1 (by omega) hy
     simp only [cond_true, Bool.not_true, cond_false]
     unfold addP at hn
     by_cases hf : f = fd0
     ·rw [if_pos hf] at hn
      rw [dec_t (show f = (false, 0, ()) from hf)]
      exact hn
     ·rw [if_neg hf] at hn
      rw [dec_f (show ¬ f = (false, 0, ()) from hf)]
      exact hn
theorem makeR1 (y : denL [(.struct [.bool, (.int .i64)])]) (b : Bk) (w : Wy) (l : List Fd) (h8 : b.1.length ≤ 8) (hb : ∀ i, i < b.1.length → 0 ≤ (b.1.getD i rw0).1 ∧ (b.1.getD i rw0).1 ≤ 99) (hl : ∀ i, i < 6 → 0 ≤ (l.getD i fd0).2.1 ∧ (l.getD i fd0).2.1 ≤ 1000000) (n m : Nat) (hn : n < 2 ^ b.1.length) (hm : w.2.2.1 = m) (hm6 : m < 2 ^ 6) : ∀ (e i : Nat) (f : Fd), i + e = 8 → 0 ≤ f.2.1 → f.2.1 ≤ 99 * (i : Int) → y = (numB 1 m l 6 0 (foldB 1 n (fun i => (b.1.getD i rw0).1) e i f), ()) → Ev fun k => T111_5 i (some (b, ())) w l f n k = some y := by
 intro e
 induction e with
 | zero =>
  intro i f hi h0 h1 hy
  refine U111_5 _ _ _ _ _ _ (Ev.eq (fun _ => Q111_5 _ _ _ _ _ _ _) ?_)
  obtain rfl : i = 8 := by omega
  have hn8 : n < 2 ^ 8 := Nat.lt_of_lt_of_le hn (Nat.pow_le_pow_right (by decide) h8)
  rw [dec_f (show ¬ (((8 : Nat) : Int) < 0) by omega), Int.toNat_natCast, fdiv_pow n 8 (by omega), Nat.div_eq_of_lt hn8, hm]
  exact makeN1 y l hl m hm6 6 0 f (by omega) h0 (by omega) hy
 | succ e ih =>
  intro i f hi h0 h1 hy
  refine U111_5 _ _ _ _ _ _ (Ev.eq (fun _ => Q111_5 _ _ _ _ _ _ _) ?_)
  have hn8 : n < 2 ^ 8 := Nat.lt_of_lt_of_le hn (Nat.pow_le_pow_right (by decide) h8)
  have hbk := bit_ok n i (by omega) (by omega)
  rw [dec_f (show ¬ ((i : Int) < 0) by omega), Int.toNat_natCast, hbk, fdiv_pow n i (by omega), dec_t (show (0 : Int) ≤ (i : Int) by omega), wrap_succ (n := i) (by omega), eqF]
  simp only [cond_false, Option.bind_some, Bool.true_and]
  rw [show b.1.getD i (0, false, ()) = b.1.getD i rw0 from rfl]
  by_cases hz : n / 2 ^ i = 0
  ·rw [dec_f (by rw [hz]; decide), hm]
   rw [foldB_zero hz] at hy
   exact makeN1 y l hl m hm6 6 0 f (by omega) h0 (by omega) hy
  ·rw [dec_t (Int.natCast_pos.2 (Nat.pos_of_ne_zero hz))]
   simp only [cond_true]
   rw [foldB] at hy
   cases hbit : n.testBit i with
   | false =>
    rw [hbit, if_neg (by decide)] at hy
    exact ih (i + 1) f (by omega) h0 (by omega) hy
   | true =>
    have hlt := bit_lt hbit hn
    have hv := hb i hlt
    rw [hbit, if_pos rfl] at hy
    rw [dec_t (show (i : Int) < (b.1.length : Int) by omega)]
    have hbd := add_bd (op := 1) (f := f) (x := (b.1.getD i rw0).1) (B := 99 * (i : Int)) (C := 99) h0 h1 hv.1 hv.2 (by omega)
    have hn := ih (i + 1) (addP 1 f (b.1.getD i rw0).1) (by omega) hbd.1 (by omega) hy
    simp only [cond_true]
    unfold addP at hn
    by_cases hf : f = fd0
    ·rw [if_pos hf] at hn
     rw [dec_t (show f = (false, 0, ()) from hf)]
     exact hn
    ·rw [if_neg hf] at hn
     rw [dec_f (show ¬ f = (false, 0, ()) from hf)]
     exact hn
theorem makeR1s (y : denL [(.struct [.bool, (.int .i64)])]) (b : Bk) (w : Wy) (l : List Fd) (h8 : b.1.length ≤ 8) (hb : ∀ i, i < b.1.length → 0 ≤ (b.1.getD i rw0).1 ∧ (b.1.getD i rw0).1 ≤ 99) (hl : ∀ i, i < 6 → 0 ≤ (l.getD i fd0).2.1 ∧ (l.getD i fd0).2.1 ≤ 1000000) (n m : Nat) (hn : n < 2 ^ b.1.length) (hm : w.2.2.1 = m) (hm6 : m < 2 ^ 6) : ∀ (f : Fd), f = fd0 → y = (numB 1 m l 6 0 (foldB 1 n (fun i => (b.1.getD i rw0).1) 8 0 f), ()) → Ev fun k => T111_1 0 (some (b, ())) w l f n k = some y := by
  intro f hf0 hy
  have h0 : 0 ≤ f.2.1 := by rw [hf0]; decide
  have h1 : f.2.1 ≤ 99 * ((0 : Nat) : Int) := by rw [hf0]; decide
  obtain ⟨i, hi⟩ : ∃ i : Nat, i = 0 := ⟨0, rfl⟩
  have key := makeR1 y b w l h8 hb hl n m hn hm hm6 7 (i + 1)
  rw [show (0 : Int) = (i : Int) by omega]
  have hy2 : y = (numB 1 m l 6 0 (foldB 1 n (fun i => (b.1.getD i rw0).1) (7 + 1) i f), ()) := by rw [hi]; exact hy
  clear hy
  have hy := hy2
  clear hy2
  rw [show (0 : Nat) = i from hi.symm] at h1
  refine U111_1 _ _ _ _ _ _ (Ev.eq (fun _ => Q111_1 _ _ _ _ _ _ _) ?_)
  have hn8 : n < 2 ^ 8 := Nat.lt_of_lt_of_le hn (Nat.pow_le_pow_right (by decide) h8)
  have hbk := bit_ok n i (by omega) (by omega)
  rw [dec_f (show ¬ ((i : Int) < 0) by omega), Int.toNat_natCast, hbk, fdiv_pow n i (by omega), dec_t (show (0 : Int) ≤ (i : Int) by omega), wrap_succ (n := i) (by omega), eqF]
  simp only [cond_false, Option.bind_some, Bool.true_and]
  rw [show b.1.getD i (0, false, ()) = b.1.getD i rw0 from rfl]
  by_cases hz : n / 2 ^ i = 0
  ·rw [dec_f (by rw [hz]; decide), hm]
   rw [foldB_zero hz] at hy
   exact makeN1 y l hl m hm6 6 0 f (by omega) h0 (by omega) hy
  ·rw [dec_t (Int.natCast_pos.2 (Nat.pos_of_ne_zero hz))]
   simp only [cond_true]
   rw [foldB] at hy
   cases hbit : n.testBit i with
   | false =>
    rw [hbit, if_neg (by decide)] at hy
    exact key f (by omega) h0 (by omega) hy
   | true =>
    have hlt := bit_lt hbit hn
    have hv := hb i hlt
    rw [hbit, if_pos rfl] at hy
    rw [dec_t (show (i : Int) < (b.1.length : Int) by omega)]
    have hbd := add_bd (op := 1) (f := f) (x := (b.1.getD i rw0).1) (B := 99 * (i : Int)) (C := 99) h0 h1 hv.1 hv.2 (by omega)
    have hn := key (addP 1 f (b.1.getD i rw0).1) (by omega) hbd.1 (by omega) hy
    simp only [cond_true]
    unfold addP at hn
    by_cases hf : f = fd0
    ·rw [if_pos hf] at hn
     rw [dec_t (show f = (false, 0, ()) from hf)]
     exact hn
    ·rw [if_neg hf] at hn
     rw [dec_f (show ¬ f = (false, 0, ()) from hf)]
     exact hn
theorem makeN2 (y : denL [(.struct [.bool, (.int .i64)])]) (l : List Fd) (hl : ∀ i, i < 6 → 0 ≤ (l.getD i fd0).2.1 ∧ (l.getD i fd0).2.1 ≤ 1000000) (n : Nat) (hn : n < 2 ^ 6) : ∀ (e i : Nat) (f : Fd), i + e = 6 → 0 ≤ f.2.1 → f.2.1 ≤ 1000 + 1000000 * (i : Int) → y = (numB 2 n l e i f, ()) → Ev fun k => T111_8 i l f n k = some y := by
 intro e
 induction e with
 | zero =>
  intro i f hi h0 h1 hy
  refine U111_8 _ _ _ _ (Ev.eq (fun _ => Q111_8 _ _ _ _ _) ?_)
  obtain rfl : i = 6 := by omega
  rw [dec_f (show ¬ (((6 : Nat) : Int) < 0) by omega), Int.toNat_natCast, fdiv_pow n 6 (by omega), Nat.div_eq_of_lt hn, hy]
  exact Ev.all fun _ => by first | rfl | trivial
 | succ e ih =>
  intro i f hi h0 h1 hy
  refine U111_8 _ _ _ _ (Ev.eq (fun _ => Q111_8 _ _ _ _ _) ?_)
  have hb := bit_ok n i (by omega) (by omega)
  have hv := hl i (by omega)
  rw [dec_f (show ¬ ((i : Int) < 0) by omega), Int.toNat_natCast, hb, fdiv_pow n i (by omega), dec_t (show (0 : Int) ≤ (i : Int) by omega), dec_t (show (i : Int) < 6 by omega), dec_t (show i < 6 by omega), wrap_succ (n := i) (by omega), eqF]
  rw [show l.getD i (false, 0, ()) = l.getD i fd0 from rfl]
  simp only [cond_false, Bool.and_self, cond_true]
  by_cases hz : n / 2 ^ i = 0
  ·rw [dec_f (by rw [hz]; decide), hy, numB_zero hz]
   exact Ev.all fun _ => by first | rfl | trivial
  ·rw [dec_t (Int.natCast_pos.2 (Nat.pos_of_ne_zero hz))]
   simp only [cond_true]
   rw [numB] at hy
   cases hbit : n.testBit i with
   | false =>
    rw [hbit, if_neg (by decide)] at hy
    exact ih (i + 1) f (by omega) h0 (by omega) hy
   | true =>
    rw [hbit, if_pos rfl] at hy
    cases hs : (l.getD i fd0).1 with
    | false =>
     rw [hs, if_pos rfl] at hy
     rw [hy]
     exact Ev.all fun _ => by first | rfl | trivial
    | true =>
     rw [hs, if_neg (by decide)] at hy
     have hbd := add_bd (op := 2) (f := f) (x := (l.getD i fd0).2.1) (B := 1000 + 1000000 * (i : Int)) (C := 1000000) h0 h1 hv.1 hv.2 (by omega)
     have hn := ih (i + 1) (addP 2 f (l.getD i fd0).2.1) (by omega) hbd.1 (by omega) hy
     simp only [cond_true, Bool.not_true, cond_false]
     unfold addP at hn
     by_cases hf : f = fd0
     ·rw [if_pos hf] at hn
      rw [dec_t (show f = (false, 0, ()) from hf)]
      exact hn
     ·rw [if_neg hf] at hn
      rw [dec_f (show ¬ f = (false, 0, ()) from hf)]
      exact hn
theorem makeR2 (y : denL [(.struct [.bool, (.int .i64)])]) (b : Bk) (w : Wy) (l : List Fd) (h8 : b.1.length ≤ 8) (hb : ∀ i, i < b.1.length → 0 ≤ (b.1.getD i rw0).1 ∧ (b.1.getD i rw0).1 ≤ 99) (hl : ∀ i, i < 6 → 0 ≤ (l.getD i fd0).2.1 ∧ (l.getD i fd0).2.1 ≤ 1000000) (n m : Nat) (hn : n < 2 ^ b.1.length) (hm : w.2.2.1 = m) (hm6 : m < 2 ^ 6) : ∀ (e i : Nat) (f : Fd), i + e = 8 → 0 ≤ f.2.1 → f.2.1 ≤ 99 * (i : Int) → y = (numB 2 m l 6 0 (foldB 2 n (fun i => (b.1.getD i rw0).1) e i f), ()) → Ev fun k => T111_7 i (some (b, ())) w l f n k = some y := by
 intro e
 induction e with
 | zero =>
  intro i f hi h0 h1 hy
  refine U111_7 _ _ _ _ _ _ (Ev.eq (fun _ => Q111_7 _ _ _ _ _ _ _) ?_)
  obtain rfl : i = 8 := by omega
  have hn8 : n < 2 ^ 8 := Nat.lt_of_lt_of_le hn (Nat.pow_le_pow_right (by decide) h8)
  rw [dec_f (show ¬ (((8 : Nat) : Int) < 0) by omega), Int.toNat_natCast, fdiv_pow n 8 (by omega), Nat.div_eq_of_lt hn8, hm]
  exact makeN2 y l hl m hm6 6 0 f (by omega) h0 (by omega) hy
 | succ e ih =>
  intro i f hi h0 h1 hy
  refine U111_7 _ _ _ _ _ _ (Ev.eq (fun _ => Q111_7 _ _ _ _ _ _ _) ?_)
  have hn8 : n < 2 ^ 8 := Nat.lt_of_lt_of_le hn (Nat.pow_le_pow_right (by decide) h8)
  have hbk := bit_ok n i (by omega) (by omega)
  rw [dec_f (show ¬ ((i : Int) < 0) by omega), Int.toNat_natCast, hbk, fdiv_pow n i (by omega), dec_t (show (0 : Int) ≤ (i : Int) by omega), wrap_succ (n := i) (by omega), eqF]
  simp only [cond_false, Option.bind_some, Bool.true_and]
  rw [show b.1.getD i (0, false, ()) = b.1.getD i rw0 from rfl]
  by_cases hz : n / 2 ^ i = 0
  ·rw [dec_f (by rw [hz]; decide), hm]
   rw [foldB_zero hz] at hy
   exact makeN2 y l hl m hm6 6 0 f (by omega) h0 (by omega) hy
  ·rw [dec_t (Int.natCast_pos.2 (Nat.pos_of_ne_zero hz))]
   simp only [cond_true]
   rw [foldB] at hy
   cases hbit : n.testBit i with
   | false =>
    rw [hbit, if_neg (by decide)] at hy
    exact ih (i + 1) f (by omega) h0 (by omega) hy
   | true =>
    have hlt := bit_lt hbit hn
    have hv := hb i hlt
    rw [hbit, if_pos rfl] at hy
    rw [dec_t (show (i : Int) < (b.1.length : Int) by omega)]
    have hbd := add_bd (op := 2) (f := f) (x := (b.1.getD i rw0).1) (B := 99 * (i : Int)) (C := 99) h0 h1 hv.1 hv.2 (by omega)
    have hn := ih (i + 1) (addP 2 f (b.1.getD i rw0).1) (by omega) hbd.1 (by omega) hy
    simp only [cond_true]
    unfold addP at hn
    by_cases hf : f = fd0
    ·rw [if_pos hf] at hn
     rw [dec_t (show f = (false, 0, ()) from hf)]
     exact hn
    ·rw [if_neg hf] at hn
     rw [dec_f (show ¬ f = (false, 0, ()) from hf)]
     exact hn
theorem makeR2s (y : denL [(.struct [.bool, (.int .i64)])]) (b : Bk) (w : Wy) (l : List Fd) (h8 : b.1.length ≤ 8) (hb : ∀ i, i < b.1.length → 0 ≤ (b.1.getD i rw0).1 ∧ (b.1.getD i rw0).1 ≤ 99) (hl : ∀ i, i < 6 → 0 ≤ (l.getD i fd0).2.1 ∧ (l.getD i fd0).2.1 ≤ 1000000) (n m : Nat) (hn : n < 2 ^ b.1.length) (hm : w.2.2.1 = m) (hm6 : m < 2 ^ 6) : ∀ (f : Fd), f = fd0 → y = (numB 2 m l 6 0 (foldB 2 n (fun i => (b.1.getD i rw0).1) 8 0 f), ()) → Ev fun k => T111_2 0 (some (b, ())) w l f n k = some y := by
  intro f hf0 hy
  have h0 : 0 ≤ f.2.1 := by rw [hf0]; decide
  have h1 : f.2.1 ≤ 99 * ((0 : Nat) : Int) := by rw [hf0]; decide
  obtain ⟨i, hi⟩ : ∃ i : Nat, i = 0 := ⟨0, rfl⟩
  have key := makeR2 y b w l h8 hb hl n m hn hm hm6 7 (i + 1)
  rw [show (0 : Int) = (i : Int) by omega]
  have hy2 : y = (numB 2 m l 6 0 (foldB 2 n (fun i => (b.1.getD i rw0).1) (7 + 1) i f), ()) := by rw [hi]; exact hy
  clear hy
  have hy := hy2
  clear hy2
  rw [show (0 : Nat) = i from hi.symm] at h1
  refine U111_2 _ _ _ _ _ _ (Ev.eq (fun _ => Q111_2 _ _ _ _ _ _ _) ?_)
  have hn8 : n < 2 ^ 8 := Nat.lt_of_lt_of_le hn (Nat.pow_le_pow_right (by decide) h8)
  have hbk := bit_ok n i (by omega) (by omega)
  rw [dec_f (show ¬ ((i : Int) < 0) by omega), Int.toNat_natCast, hbk, fdiv_pow n i (by omega), dec_t (show (0 : Int) ≤ (i : Int) by omega), wrap_succ (n := i) (by omega), eqF]
  simp only [cond_false, Option.bind_some, Bool.true_and]
  rw [show b.1.getD i (0, false, ()) = b.1.getD i rw0 from rfl]
  by_cases hz : n / 2 ^ i = 0
  ·rw [dec_f (by rw [hz]; decide), hm]
   rw [foldB_zero hz] at hy
   exact makeN2 y l hl m hm6 6 0 f (by omega) h0 (by omega) hy
  ·rw [dec_t (Int.natCast_pos.2 (Nat.pos_of_ne_zero hz))]
   simp only [cond_true]
   rw [foldB] at hy
   cases hbit : n.testBit i with
   | false =>
    rw [hbit, if_neg (by decide)] at hy
    exact key f (by omega) h0 (by omega) hy
   | true =>
    have hlt := bit_lt hbit hn
    have hv := hb i hlt
    rw [hbit, if_pos rfl] at hy
    rw [dec_t (show (i : Int) < (b.1.length : Int) by omega)]
    have hbd := add_bd (op := 2) (f := f) (x := (b.1.getD i rw0).1) (B := 99 * (i : Int)) (C := 99) h0 h1 hv.1 hv.2 (by omega)
    have hn := key (addP 2 f (b.1.getD i rw0).1) (by omega) hbd.1 (by omega) hy
    simp only [cond_true]
    unfold addP at hn
    by_cases hf : f = fd0
    ·rw [if_pos hf] at hn
     rw [dec_t (show f = (false, 0, ()) from hf)]
     exact hn
    ·rw [if_neg hf] at hn
     rw [dec_f (show ¬ f = (false, 0, ()) from hf)]
     exact hn
end Go.Proofs.Ytallblpnlefpeaa
/- What a way makes, and all numbers of a valid book. Conditions: as each lemma states. -/
namespace Go.Proofs.Ytallblpnlefpeaa
open Go Go.Gh Go.Proofs
structure VW (b : Bk) (i : Nat) (w : Wy) : Prop where
 o0 : 0 ≤ w.1
 o2 : w.1 ≤ 2
 r0 : 0 ≤ w.2.1
 r1 : w.2.1 < 2 ^ b.1.length
 n0 : 0 ≤ w.2.2.1
 n1 : w.2.2.1 < 2 ^ i
 some : ¬ (w.2.1 = 0 ∧ w.2.2.1 = 0)
structure VB (b : Bk) : Prop where
 r8 : b.1.length ≤ 8
 val : ∀ r ∈ b.1, 0 ≤ r.1 ∧ r.1 ≤ 99
 n6 : b.2.1.length ≤ 6
 many : ∀ i, i < b.2.1.length → 1 ≤ (b.2.1.getD i []).length ∧ (b.2.1.getD i []).length ≤ 3
 ways : ∀ i, i < b.2.1.length → ∀ w ∈ b.2.1.getD i [], VW b i w
theorem VB.at {b : Bk} (h : VB b) (i : Nat) (hi : i < b.1.length) : 0 ≤ (b.1.getD i rw0).1 ∧ (b.1.getD i rw0).1 ≤ 99 := by
 rw [getD_lt hi]
 exact h.val _ (List.getElem_mem hi)
theorem foldB_list (op : Int) (n : Nat) (v : Nat → Int) : ∀ (e i : Nat) (f : Fd), foldB op n v e i f = (((List.range' i e).filter fun j => n.testBit j).map v).foldl (addP op) f
 | 0, _, _ => rfl
 | e + 1, i, f => by
  rw [foldB, foldB_list op n v e, List.range'_succ, List.filter_cons]
  cases n.testBit i <;> rfl
theorem numB_list (op : Int) (n : Nat) (l : List Fd) : ∀ (e i : Nat) (f : Fd), numB op n l e i f = if (((List.range' i e).filter fun j => n.testBit j).any fun j => !(l.getD j fd0).1) = true then fd0 else (((List.range' i e).filter fun j => n.testBit j).map fun j => (l.getD j fd0).2.1).foldl (addP op) f
 | 0, _, _ => rfl
 | e + 1, i, f => by
  rw [numB, List.range'_succ, List.filter_cons]
  cases hb : n.testBit i with
  | false =>
   rw [if_neg (by decide), numB_list op n l e]
   rfl
  | true =>
   rw [if_pos rfl, if_pos rfl, List.any_cons]
   cases hs : (l.getD i fd0).1 with
   | false => rfl
   | true =>
    rw [if_neg (by decide), numB_list op n l e]
    simp only [Bool.not_true, Bool.false_or, List.map_cons, List.foldl_cons]
theorem fold_true (op : Int) : ∀ (vs : List Int) (v : Int), vs.foldl (addP op) (true, v, ()) = (true, vs.foldl (opP op) v, ())
 | [], _ => rfl
 | x :: vs, v => by
  rw [List.foldl_cons, List.foldl_cons, ← fold_true op vs]
  congr 1
theorem fold_made (op : Int) : ∀ vs : List Int, vs.foldl (addP op) fd0 = madeP op vs
 | [] => rfl
 | v :: vs => by
  rw [List.foldl_cons, show addP op fd0 v = (true, v, ()) by unfold addP; rw [if_pos rfl], fold_true]
  rfl
theorem foldB_bd {op : Int} {n : Nat} {v : Nat → Int} (hv : ∀ i, n.testBit i = true → 0 ≤ v i ∧ v i ≤ 99) : ∀ (e i : Nat) (f : Fd), 0 ≤ f.2.1 → f.2.1 ≤ 99 * (i : Int) → 0 ≤ (foldB op n v e i f).2.1 ∧ (foldB op n v e i f).2.1 ≤ 99 * ((i + e : Nat) : Int)
 | 0, i, f, h0, h1 => by simp only [foldB, Nat.add_zero]; exact ⟨h0, h1⟩
 | e + 1, i, f, h0, h1 => by
  rw [foldB, show i + (e + 1) = i + 1 + e by omega]
  cases hb : n.testBit i with
  | true =>
   have h2 := hv i hb
   have h3 := add_bd (op := op) h0 h1 h2.1 h2.2 (by omega)
   rw [if_pos rfl]
   exact foldB_bd hv e (i + 1) _ h3.1 (by omega)
  | false =>
   rw [if_neg (by decide)]
   exact foldB_bd hv e (i + 1) f h0 (by omega)
def capN (k i : Nat) : Int := 792 + 1000 * (2 ^ min i k : Nat) - 1000
theorem capN_nn (k i : Nat) : 792 ≤ capN k i := by
 have := Nat.two_pow_pos (min i k)
 unfold capN; omega
theorem capN_le (k i : Nat) : capN k i ≤ capN k (i + 1) := by
 have : 2 ^ min i k ≤ 2 ^ min (i + 1) k := Nat.pow_le_pow_right (by decide) (by omega)
 unfold capN; omega
theorem capN_step {k i : Nat} (h : i < k) : capN k i + 1000 * (2 ^ i : Nat) ≤ capN k (i + 1) := by
 unfold capN
 rw [show min i k = i by omega, show min (i + 1) k = i + 1 by omega, Nat.pow_succ]
 omega
theorem capN_end {k i : Nat} : capN k i ≤ 1000 * (2 ^ k : Nat) := by
 have : 2 ^ min i k ≤ 2 ^ k := Nat.pow_le_pow_right (by decide) (by omega)
 unfold capN; omega
theorem numB_bd {op : Int} {n k : Nat} {l : List Fd} (hn : n < 2 ^ k) (hl : ∀ i, i < k → 0 ≤ (l.getD i fd0).2.1 ∧ (l.getD i fd0).2.1 ≤ 1000 * (2 ^ i : Nat)) : ∀ (e i : Nat) (f : Fd), 0 ≤ f.2.1 → f.2.1 ≤ capN k i → 0 ≤ (numB op n l e i f).2.1 ∧ (numB op n l e i f).2.1 ≤ 1000 * (2 ^ k : Nat)
 | 0, i, f, h0, h1 => by simp only [numB]; exact ⟨h0, Int.le_trans h1 capN_end⟩
 | e + 1, i, f, h0, h1 => by
  rw [numB]
  cases hb : n.testBit i with
  | true =>
   rw [if_pos rfl]
   have hik := bit_lt hb hn
   have h2 := hl i hik
   cases hs : (l.getD i fd0).1 with
   | false =>
    rw [if_pos rfl]
    have := Nat.two_pow_pos k
    exact ⟨by decide, by simp only [fd0]; omega⟩
   | true =>
    rw [if_neg (by decide)]
    have h3 := add_bd (op := op) h0 h1 h2.1 h2.2 (by have := capN_nn k i; omega)
    exact numB_bd hn hl e (i + 1) _ h3.1 (Int.le_trans h3.2 (capN_step hik))
  | false =>
   rw [if_neg (by decide)]
   exact numB_bd hn hl e (i + 1) f h0 (Int.le_trans h1 (capN_le k i))
theorem but_any {n r : Nat} (hn : n < 2 ^ 8) : ((bitL (n : Int) 8).any fun i => !(r : Int).toNat.testBit i) = (((butN n r : Nat) : Int) != 0) := by
 rw [Bool.eq_iff_iff, List.any_eq_true, bne_iff_ne]
 unfold bitL
 simp only [Int.toNat_natCast]
 constructor
 ·rintro ⟨i, hi, h⟩ h0
  have hb := (List.mem_filter.1 hi).2
  have h0 : butN n r = 0 := by omega
  have := butN_bit n r i
  rw [h0, hb] at this
  simp only [Nat.zero_testBit, Bool.true_and] at this
  rw [← this] at h
  cases h
 ·intro h0
  have h0 : butN n r ≠ 0 := by omega
  obtain ⟨i, hi⟩ := Nat.exists_testBit_of_ne_zero h0
  rw [butN_bit, Bool.and_eq_true] at hi
  exact ⟨i, List.mem_filter.2 ⟨List.mem_range.2 (bit_lt hi.1 hn), hi.1⟩, hi.2⟩
def makesB (b : Bk) (w : Wy) (l : List Fd) : Fd := numB w.1 w.2.2.1.toNat l 6 0 (foldB w.1 w.2.1.toNat (fun i => (b.1.getD i rw0).1) 8 0 fd0)
theorem makesP_B (b : Bk) (w : Wy) (rows : Int) (l : List Fd) : makesP b w rows l = if ((bitL w.2.1 8).any fun i => !rows.toNat.testBit i) = true then fd0 else makesB b w l := by
 unfold makesP makesB bitL
 rw [numB_list, foldB_list, List.range_eq_range', List.range_eq_range']
 split
 ·rfl
 ·split
  ·rfl
  ·rw [← List.foldl_append, fold_made]
theorem L111 (b : Bk) (hv : VB b) (w : Wy) {k : Nat} (hk : k ≤ 6) (hw : VW b k w) (rows : Nat) (hr : rows < 1099511627776) (l : List Fd) (hl : ∀ i, i < 6 → 0 ≤ (l.getD i fd0).2.1 ∧ (l.getD i fd0).2.1 ≤ 1000000) :
  F111 ((some ((b, ()) : Bk × Unit), w, (rows : Int), l, ()) : Option (Bk × Unit) × Wy × Int × List Fd × Unit) = some (makesP b w rows l, ()) := by
 refine ghost_eq (Ev.eq (fun _ => E111 _ _ _ _ _) ?_)
 obtain ⟨n, hn⟩ := Int.eq_ofNat_of_zero_le hw.r0
 obtain ⟨m, hm⟩ := Int.eq_ofNat_of_zero_le hw.n0
 have h1 := hw.r1
 have h2 := hw.n1
 rw [hn] at h1
 rw [hm] at h2
 have h1 : n < 2 ^ b.1.length := by exact_mod_cast h1
 have h2 : m < 2 ^ k := by exact_mod_cast h2
 have hn8 : n < 2 ^ 8 := Nat.lt_of_lt_of_le h1 (Nat.pow_le_pow_right (by decide) hv.r8)
 have hm6 : m < 2 ^ 6 := Nat.lt_of_lt_of_le h2 (Nat.pow_le_pow_right (by decide) hk)
 rw [makesP_B, hn, andNot_nat n rows (by omega) hr, ← but_any hn8]
 cases hany : (bitL (n : Int) 8).any fun i => !(rows : Int).toNat.testBit i with
 | true =>
  rw [if_pos rfl]
  exact Ev.all fun _ => by first | rfl | trivial
 | false =>
  rw [if_neg (by decide)]
  unfold makesB
  rw [hn, hm, Int.toNat_natCast, Int.toNat_natCast]
  have o0 := hw.o0
  have o2 := hw.o2
  simp only [cond_false]
  rw [dec_t o0, dec_t (show w.1 < 3 by omega)]
  simp only [Bool.and_self, cond_true]
  have ho : w.1 = 0 ∨ w.1 = 1 ∨ w.1 = 2 := by omega
  rcases ho with ho | ho | ho
  ·rw [ho, dec_t (show Int.toNat 0 = 0 from rfl)]
   exact makeR0s _ b w l hv.r8 hv.at hl n m h1 hm hm6 fd0 rfl rfl
  ·rw [ho, dec_f (show ¬ Int.toNat 1 = 0 by decide), dec_t (show Int.toNat 1 = 1 from rfl)]
   exact makeR1s _ b w l hv.r8 hv.at hl n m h1 hm hm6 fd0 rfl rfl
  ·rw [ho, dec_f (show ¬ Int.toNat 2 = 0 by decide), dec_f (show ¬ Int.toNat 2 = 1 by decide), dec_t (show Int.toNat 2 = 2 from rfl)]
   exact makeR2s _ b w l hv.r8 hv.at hl n m h1 hm hm6 fd0 rfl rfl
theorem firstP_of {b : Bk} {rows : Int} {l : List Fd} {ws : List Wy} {f : Fd} (h : firstP b rows l ws = some f) : ∃ w ∈ ws, f = makesP b w rows l ∧ f.1 = true := by
 unfold firstP at h
 have h1 := List.mem_of_find?_eq_some h
 obtain ⟨w, hw, rfl⟩ := List.mem_map.1 h1
 exact ⟨w, hw, rfl, by simpa using List.find?_some h⟩
theorem allN_ok {b : Bk} (hv : VB b) (rows : Int) : ∀ n, n ≤ b.2.1.length → (allN b rows n).length = 6 ∧ (∀ i, i < 6 → 0 ≤ ((allN b rows n).getD i fd0).2.1 ∧ ((allN b rows n).getD i fd0).2.1 ≤ 1000 * (2 ^ i : Nat)) ∧ (∀ i, n ≤ i → (allN b rows n).getD i fd0 = fd0)
 | 0, _ => by
  refine ⟨by simp [allN], fun i _ => ?_, fun i _ => ?_⟩
  ·have : (allN b rows 0).getD i fd0 = fd0 := by rw [allN, List.getD_eq_getElem?_getD, List.getElem?_replicate]; split <;> rfl
   rw [this]
   have := Nat.two_pow_pos i
   exact ⟨by decide, by simp only [fd0]; omega⟩
  ·rw [allN, List.getD_eq_getElem?_getD, List.getElem?_replicate]; split <;> rfl
 | n + 1, hn => by
  obtain ⟨h1, h2, h3⟩ := allN_ok hv rows n (by omega)
  have n6 := hv.n6
  rw [allN]
  cases hf : firstP b rows (allN b rows n) (b.2.1.getD n []) with
  | none =>
   refine ⟨h1, h2, fun i hi => h3 i (by omega)⟩
  | some f =>
   simp only
   refine ⟨by simp [h1], fun i hi => ?_, fun i hi => ?_⟩
   ·rw [getD_set' (by omega)]
    split
    ·rename_i e
     subst e
     obtain ⟨w, hw, rfl, hs⟩ := firstP_of hf
     have hw := hv.ways n (by omega) w hw
     rw [makesP_B] at hs ⊢
     split
     ·rename_i hc
      rw [if_pos hc] at hs
      cases hs
     ·obtain ⟨m, hm⟩ := Int.eq_ofNat_of_zero_le hw.n0
      obtain ⟨p, hp⟩ := Int.eq_ofNat_of_zero_le hw.r0
      have hm2 := hw.n1
      have hp2 := hw.r1
      rw [hm] at hm2
      rw [hp] at hp2
      have hm2 : m < 2 ^ n := by exact_mod_cast hm2
      have hp2 : p < 2 ^ b.1.length := by exact_mod_cast hp2
      unfold makesB
      rw [hm, hp, Int.toNat_natCast, Int.toNat_natCast]
      have hfb := foldB_bd (op := w.1) (n := p) (v := fun i => (b.1.getD i rw0).1) (fun i hi => hv.at i (bit_lt hi hp2)) 8 0 fd0 (by decide) (by decide)
      have hc := capN_nn n 0
      exact numB_bd hm2 (fun i hi => h2 i (by omega)) 6 0 _ hfb.1 (by omega)
    ·exact h2 i hi
   ·rw [getD_set' (by omega), if_neg (by omega)]
    exact h3 i (by omega)
theorem allN_cap {b : Bk} (hv : VB b) (rows : Int) {n : Nat} (hn : n ≤ b.2.1.length) {i : Nat} (hi : i < 6) : 0 ≤ ((allN b rows n).getD i fd0).2.1 ∧ ((allN b rows n).getD i fd0).2.1 ≤ 1000000 := by
 have h := (allN_ok hv rows n hn).2.1 i hi
 have : 2 ^ i ≤ 2 ^ 6 := Nat.pow_le_pow_right (by decide) (by omega)
 omega
theorem drop_map_find {b : Bk} {rows : Int} {l : List Fd} {ws : List Wy} {j : Nat} (hj : j < ws.length) : firstP b rows l (ws.drop j) = if (makesP b ws[j] rows l).1 = true then some (makesP b ws[j] rows l) else firstP b rows l (ws.drop (j + 1)) := by
 unfold firstP
 rw [List.drop_eq_getElem_cons hj, List.map_cons, List.find?_cons]
 cases (makesP b ws[j] rows l).1 <;> rfl
theorem L85 (b : Bk) (hv : VB b) (rows : Nat) (hr : rows < 1099511627776) : F85 ((some ((b, ()) : Bk × Unit), (rows : Int), ()) : Option (Bk × Unit) × Int × Unit) = some (allP b rows, ()) := by
 refine ghost_eq (Ev.eq (fun _ => E85 _ _ _) ?_)
 simp only [Option.bind_some]
 have n6 := hv.n6
 have key : ∀ (e n : Nat), n + e = b.2.1.length → Ev fun k => T85_0 (some (b, ())) rows b.2.1 b.2.1.length n (List.replicate 6 fd0) (allN b rows n) k = some (allP b rows, ()) := by
  intro e
  induction e with
  | zero =>
   intro n hn
   obtain rfl : n = b.2.1.length := by omega
   refine U85_0 _ _ _ _ _ _ _ (Ev.eq (fun _ => Q85_0 _ _ _ _ _ _ _ _) ?_)
   rw [dec_f (by omega)]
   simp only [cond_false, Option.bind_some, guardP]
   rw [if_pos (show (Memo.f (Memo.mk 106 [Ty.struct [Ty.slice (Ty.struct [Ty.int IntKind.i64, Ty.bool]), Ty.slice (Ty.slice (Ty.struct [Ty.int IntKind.i64, Ty.int IntKind.i64, Ty.int IntKind.i64]))]] 104 (Ty.int IntKind.i64) (Ty.arr 6 (Ty.struct [Ty.bool, Ty.int IntKind.i64])) allF) ((b, ()) : Bk × Unit) (rows : Int)) = some (allN b rows b.2.1.length) from rfl)]
   exact Ev.all fun _ => by first | rfl | trivial
  | succ e ih =>
   intro n hn
   refine U85_0 _ _ _ _ _ _ _ (Ev.eq (fun _ => Q85_0 _ _ _ _ _ _ _ _) ?_)
   have hlt : n < b.2.1.length := by omega
   have hi := ih (n + 1) (by omega)
   rw [dec_t (show (n : Int) < (b.2.1.length : Int) by omega), dec_t (show (0 : Int) ≤ (n : Int) by omega), Int.toNat_natCast]
   simp only [Bool.and_self, cond_true]
   have hm := hv.many n hlt
   have hw := hv.ways n hlt
   have hcap := fun i hi => allN_cap hv rows (n := n) (by omega) (i := i) hi
   have hlen := (allN_ok hv rows n (by omega)).1
   rw [allN] at hi
   generalize b.2.1.getD n [] = ws at *
   have inner : ∀ (e j : Nat), j + e = ws.length → firstP b rows (allN b rows n) (ws.drop j) = firstP b rows (allN b rows n) ws → Ev fun k => T85_1 (some (b, ())) rows n b.2.1 b.2.1.length n ws ws.length j (List.replicate 6 fd0) (allN b rows n) k = some (allP b rows, ()) := by
    intro e
    induction e with
    | zero =>
     intro j hj he
     refine U85_1 _ _ _ _ _ _ _ _ _ _ _ (Ev.eq (fun _ => Q85_1 _ _ _ _ _ _ _ _ _ _ _ _) ?_)
     rw [List.drop_eq_nil_of_le (by omega)] at he
     rw [← he] at hi
     rw [dec_f (show ¬ ((j : Int) < (ws.length : Int)) by omega), wrap_succ (n := n) (by omega)]
     exact hi
    | succ e ih2 =>
     intro j hj he
     refine U85_1 _ _ _ _ _ _ _ _ _ _ _ (Ev.eq (fun _ => Q85_1 _ _ _ _ _ _ _ _ _ _ _ _) ?_)
     have hjl : j < ws.length := by omega
     rw [drop_map_find hjl] at he
     rw [dec_t (show (j : Int) < (ws.length : Int) by omega), dec_t (show (0 : Int) ≤ (j : Int) by omega), Int.toNat_natCast, Int.toNat_natCast, getD_lt hjl, L111 b hv ws[j] (by omega) (hw _ (List.getElem_mem hjl)) rows hr _ hcap, wrap_succ (n := n) (by omega), wrap_succ (n := j) (by omega), dec_t (show (0 : Int) ≤ (n : Int) by omega), dec_t (show (n : Int) < 6 by omega), dec_t (show n < 6 by omega)]
     simp only [Bool.and_self, cond_true, Option.bind_some]
     cases hs : (makesP b ws[j] rows (allN b rows n)).1 with
     | true =>
      rw [hs, if_pos rfl] at he
      rw [← he] at hi
      exact hi
     | false =>
      rw [hs, if_neg (by decide)] at he
      exact ih2 (j + 1) (by omega) he
   exact inner ws.length 0 (by omega) (by rw [List.drop_zero])
 have hrun := key b.2.1.length 0 (by omega)
 refine hrun.mono fun k hk => ?_
 have hk' := hk
 unfold dem
 rw [if_pos]
 ·exact hk
 ·exact hk
end Go.Proofs.Ytallblpnlefpeaa
/- 'Check' of a book: what it comes to, and what it says of the book. Conditions: as each lemma states. -/
namespace Go.Proofs.Ytallblpnlefpeaa
open Go Go.Gh Go.Proofs
def wayE (b : Bk) (i : Nat) (w : Wy) : Int :=
 if w.1 < 0 ∨ 2 < w.1 then 7
 else if (w.2.1 < 0 ∨ (2 ^ b.1.length - 1 : Nat) < w.2.1) ∨ (w.2.2.1 < 0 ∨ (2 ^ i - 1 : Nat) < w.2.2.1) then 4
 else if w.2.1 = 0 ∧ w.2.2.1 = 0 then 2 else 0
def rowsE : List Rw → Nat → Option Nat
 | [], _ => none
 | r :: l, i => if 0 ≤ r.1 ∧ r.1 ≤ 99 then rowsE l (i + 1) else some i
def numE (b : Bk) (i : Nat) : List Wy → Option Int
 | [] => none
 | w :: l => if wayE b i w = 0 then numE b i l else some (wayE b i w)
def numsE (b : Bk) : List (List Wy) → Nat → Option (Nat × Int)
 | [], _ => none
 | ws :: l, i => if 1 ≤ ws.length ∧ ws.length ≤ 3 then (match numE b i ws with | some e => some (i, e) | none => numsE b l (i + 1)) else some (i, 3)
def endN : Option (Nat × Int) → Int × Int × Int × Unit
 | some (i, e) => (2, (i : Int), e, ())
 | none => (0, 0, 0, ())
def endR (b : Bk) : Option Nat → Int × Int × Int × Unit
 | some i => (1, (i : Int), 7, ())
 | none => if 6 < b.2.1.length then (2, 0, 3, ()) else endN (numsE b b.2.1 0)
def chkP (b : Bk) : Int × Int × Int × Unit := if 8 < b.1.length then (1, 0, 3, ()) else endR b (rowsE b.1 0)
theorem numE_none {b : Bk} {i : Nat} : ∀ {l : List Wy}, numE b i l = none → ∀ w ∈ l, wayE b i w = 0
 | [], _, w, hw => by simp at hw
 | v :: l, h, w, hw => by
  rw [numE] at h
  split at h
  ·rcases List.mem_cons.1 hw with rfl | hw
   ·assumption
   ·exact numE_none h w hw
  ·cases h
theorem numE_some {b : Bk} {i : Nat} {e : Int} : ∀ {l : List Wy}, numE b i l = some e → e ≠ 0
 | [], h => by cases h
 | v :: l, h => by
  rw [numE] at h
  split at h
  ·exact numE_some h
  ·cases h
   assumption
theorem numsE_none {b : Bk} : ∀ {l : List (List Wy)} {i : Nat}, numsE b l i = none → ∀ j, j < l.length → (1 ≤ (l.getD j []).length ∧ (l.getD j []).length ≤ 3) ∧ ∀ w ∈ l.getD j [], wayE b (i + j) w = 0
 | [], _, _, j, hj => by simp at hj
 | ws :: l, i, h, j, hj => by
  rw [numsE] at h
  split at h
  ·rename_i hm
   split at h
   ·cases h
   ·rename_i hn
    cases j with
    | zero => exact ⟨hm, numE_none hn⟩
    | succ j =>
     have := numsE_none h j (by simpa using hj)
     rw [show i + 1 + j = i + (j + 1) by omega] at this
     exact this
  ·cases h
theorem numsE_some {b : Bk} {n : Nat} {e : Int} : ∀ {l : List (List Wy)} {i : Nat}, numsE b l i = some (n, e) → e ≠ 0
 | [], _, h => by cases h
 | ws :: l, i, h => by
  rw [numsE] at h
  split at h
  ·split at h
   ·rename_i hn
    cases h
    exact numE_some hn
   ·exact numsE_some h
  ·cases h
   decide
theorem rowsE_none : ∀ {l : List Rw} {i : Nat}, rowsE l i = none → ∀ r ∈ l, 0 ≤ r.1 ∧ r.1 ≤ 99
 | [], _, _, r, hr => by simp at hr
 | v :: l, i, h, r, hr => by
  rw [rowsE] at h
  split at h
  ·rcases List.mem_cons.1 hr with rfl | hr
   ·assumption
   ·exact rowsE_none h r hr
  ·cases h
theorem wayE_ok {b : Bk} {i : Nat} {w : Wy} (h : wayE b i w = 0) : VW b i w := by
 unfold wayE at h
 split at h
 ·cases h
 ·split at h
  ·cases h
  ·split at h
   ·cases h
   ·rename_i h1 h2 h3
    have p1 : 1 ≤ 2 ^ b.1.length := Nat.one_le_two_pow
    have p2 : 1 ≤ 2 ^ i := Nat.one_le_two_pow
    have q1 : ((2 ^ b.1.length : Nat) : Int) = 2 ^ b.1.length := by simp
    have q2 : ((2 ^ i : Nat) : Int) = 2 ^ i := by simp
    exact ⟨by omega, by omega, by omega, by omega, by omega, by omega, h3⟩
theorem VB_of {b : Bk} (h : (chkP b).2.2.1 = 0) : VB b := by
 unfold chkP at h
 split at h
 ·cases h
 ·cases hr : rowsE b.1 0 with
  | some i => rw [hr] at h; cases h
  | none =>
   rw [hr] at h
   simp only [endR] at h
   split at h
   ·cases h
   ·cases hn : numsE b b.2.1 0 with
    | some p => rw [hn] at h; obtain ⟨i, e⟩ := p; exact absurd h (numsE_some hn)
    | none =>
     have := numsE_none hn
     refine ⟨by omega, rowsE_none hr, by omega, fun i hi => (this i hi).1, fun i hi w hw => ?_⟩
     have := (this i hi).2 w hw
     rw [Nat.zero_add] at this
     exact wayE_ok this
theorem chk_ok {b : Bk} (h : (chkP b).2.2.1 = 0) : chkP b = (0, 0, 0, ()) := by
 unfold chkP at *
 split at h
 ·cases h
 ·cases hr : rowsE b.1 0 with
  | some i => rw [hr] at h; cases h
  | none =>
   rw [hr] at h
   simp only [endR] at h ⊢
   rename_i h8
   rw [if_neg h8]
   split at h
   ·cases h
   ·rename_i h6
    rw [if_neg h6]
    cases hn : numsE b b.2.1 0 with
    | some p => rw [hn] at h; obtain ⟨i, e⟩ := p; exact absurd h (numsE_some hn)
    | none => rfl
theorem ors (p q : Prop) [Decidable p] [Decidable q] : (decide p || decide q) = decide (p ∨ q) := by
 by_cases hp : p <;> by_cases hq : q <;> simp [hp, hq]
theorem pow_pred (i : Nat) (hi : i ≤ 8) : IntKind.wrap IntKind.i64 (IntKind.wrap IntKind.i64 (1 * 2 ^ min i 64) - 1) = ((2 ^ i - 1 : Nat) : Int) := by
 have h1 : 1 ≤ 2 ^ i := Nat.one_le_two_pow
 have h2 : 2 ^ i ≤ 2 ^ 8 := Nat.pow_le_pow_right (by decide) hi
 rw [shl_nat i (by omega), wrap_pred (by omega) h1]
theorem or_zero {x y : Int} {n m : Nat} (hx : 0 ≤ x) (hy : 0 ≤ y) (h1 : x ≤ n) (h2 : y ≤ m) (hn : n < 1099511627776) (hm : m < 1099511627776) : (bitF BinOp.or IntKind.i64 x y == 0) = decide (x = 0 ∧ y = 0) := by
 obtain ⟨a, rfl⟩ := Int.eq_ofNat_of_zero_le hx
 obtain ⟨c, rfl⟩ := Int.eq_ofNat_of_zero_le hy
 rw [or_nat a c (by omega) (by omega), Bool.eq_iff_iff, beq_iff_eq, decide_eq_true_eq]
 constructor
 ·intro h
  have h : a ||| c = 0 := by omega
  have := Nat.or_eq_zero_iff.1 h
  omega
 ·rintro ⟨h1, h2⟩
  have h1 : a = 0 := by omega
  have h2 : c = 0 := by omega
  subst h1 h2
  rfl
theorem L18 (b : Bk) : F18 ((b, ()) : Bk × Unit) = some (chkP b) := by
 refine ghost_eq (Ev.eq (fun _ => E18 _ _) ?_)
 rw [L78_1, ors]
 unfold chkP
 simp only [Option.bind_some]
 by_cases h8 : 8 < b.1.length
 ·rw [if_pos h8, dec_t (by omega)]
  exact Ev.all fun _ => by first | rfl | trivial
 ·rw [if_neg h8, dec_f (by omega)]
  simp only [cond_false]
  have ways : ∀ (y : denL [(.int .i64), (.int .i64), (.int .i64)]) (ws : List Wy) (n : Nat), n < 6 → ws.length ≤ 3 → (numE b n ws = none → Ev fun k => T18_1 b.2.1 b.2.1.length ((n + 1 : Nat) : Int) b.2.1 b k = some y) → (∀ e, numE b n ws = some e → y = (2, (n : Int), e, ())) →
    ∀ (c j : Nat), j + c = ws.length → numE b n (ws.drop j) = numE b n ws → Ev fun k => T18_2 ws ws.length j ws n b.2.1 b.2.1.length n n ws b.2.1 b n k = some y := by
   intro y ws n hn hwl hnone hsome c
   induction c with
   | zero =>
    intro j hj he
    refine U18_2 _ _ _ _ _ _ _ _ _ _ _ _ _ (Ev.eq (fun _ => Q18_2 _ _ _ _ _ _ _ _ _ _ _ _ _ _) ?_)
    rw [List.drop_eq_nil_of_le (by omega)] at he
    rw [dec_f (show ¬ ((j : Int) < (ws.length : Int)) by omega), wrap_succ (n := n) (by omega)]
    exact hnone he.symm
   | succ c ih =>
    intro j hj he
    refine U18_2 _ _ _ _ _ _ _ _ _ _ _ _ _ (Ev.eq (fun _ => Q18_2 _ _ _ _ _ _ _ _ _ _ _ _ _ _) ?_)
    have hlt : j < ws.length := by omega
    rw [dec_t (show (j : Int) < (ws.length : Int) by omega), dec_t (show (0 : Int) ≤ (j : Int) by omega), wrap_succ (n := j) (by omega), Int.toNat_natCast, Int.toNat_natCast, Int.toNat_natCast, getD_lt hlt, L78_1, L78_1, L78_1, ors, ors, ors, pow_pred _ (by omega), pow_pred _ (by omega), dec_f (show ¬ ((n : Int) < 0) by omega)]
    simp only [Bool.and_self, cond_true, Option.bind_some, cond_false]
    rw [List.drop_eq_getElem_cons hlt, numE] at he
    have p8 : 2 ^ b.1.length ≤ 2 ^ 8 := Nat.pow_le_pow_right (by decide) (by omega)
    have p6 : 2 ^ n ≤ 2 ^ 8 := Nat.pow_le_pow_right (by decide) (by omega)
    have q8 : 1 ≤ 2 ^ b.1.length := Nat.one_le_two_pow
    have q6 : 1 ≤ 2 ^ n := Nat.one_le_two_pow
    have fin : ∀ e : Int, wayE b n ws[j] = e → e ≠ 0 → y = (2, (n : Int), e, ()) := by
     intro e h1 h2
     rw [if_neg (by rw [h1]; exact h2), h1] at he
     exact hsome e he.symm
    generalize ws[j] = w at *
    by_cases c1 : w.1 < 0 ∨ 2 < w.1
    ·rw [dec_t (show w.1 < 0 ∨ w.1 > 2 from c1), fin 7 (by unfold wayE; rw [if_pos c1]) (by decide)]
     exact Ev.all fun _ => by first | rfl | trivial
    ·rw [dec_f (show ¬ (w.1 < 0 ∨ w.1 > 2) from c1)]
     simp only [cond_false]
     by_cases c2 : w.2.1 < 0 ∨ ((2 ^ b.1.length - 1 : Nat) : Int) < w.2.1
     ·rw [dec_t (show w.2.1 < 0 ∨ w.2.1 > ((2 ^ b.1.length - 1 : Nat) : Int) from c2), fin 4 (by unfold wayE; rw [if_neg c1, if_pos (.inl c2)]) (by decide)]
      exact Ev.all fun _ => by first | rfl | trivial
     ·rw [dec_f (show ¬ (w.2.1 < 0 ∨ w.2.1 > ((2 ^ b.1.length - 1 : Nat) : Int)) from c2)]
      simp only [cond_false]
      by_cases c3 : w.2.2.1 < 0 ∨ ((2 ^ n - 1 : Nat) : Int) < w.2.2.1
      ·rw [dec_t (show w.2.2.1 < 0 ∨ w.2.2.1 > ((2 ^ n - 1 : Nat) : Int) from c3), fin 4 (by unfold wayE; rw [if_neg c1, if_pos (.inr c3)]) (by decide)]
       exact Ev.all fun _ => by first | rfl | trivial
      ·rw [dec_f (show ¬ (w.2.2.1 < 0 ∨ w.2.2.1 > ((2 ^ n - 1 : Nat) : Int)) from c3)]
       simp only [cond_false]
       rw [or_zero (n := 2 ^ b.1.length - 1) (m := 2 ^ n - 1) (by omega) (by omega) (by omega) (by omega) (by omega) (by omega)]
       by_cases c4 : w.2.1 = 0 ∧ w.2.2.1 = 0
       ·rw [dec_t c4, fin 2 (by unfold wayE; rw [if_neg c1, if_neg (fun h => h.elim c2 c3), if_pos c4]) (by decide)]
        exact Ev.all fun _ => by first | rfl | trivial
       ·rw [dec_f c4]
        simp only [cond_false]
        rw [if_pos (by unfold wayE; rw [if_neg c1, if_neg (fun h => h.elim c2 c3), if_neg c4])] at he
        exact ih (j + 1) (by omega) he
  have nums : ∀ (y : denL [(.int .i64), (.int .i64), (.int .i64)]), b.2.1.length ≤ 6 → y = endN (numsE b b.2.1 0) → ∀ (c n : Nat), n + c = b.2.1.length → numsE b (b.2.1.drop n) n = numsE b b.2.1 0 → Ev fun k => T18_1 b.2.1 b.2.1.length n b.2.1 b k = some y := by
   intro y h6 hy c
   induction c with
   | zero =>
    intro n hn he
    refine U18_1 _ _ _ _ _ (Ev.eq (fun _ => Q18_1 _ _ _ _ _ _) ?_)
    rw [List.drop_eq_nil_of_le (by omega)] at he
    rw [dec_f (show ¬ ((n : Int) < (b.2.1.length : Int)) by omega), hy, ← he]
    exact Ev.all fun _ => by first | rfl | trivial
   | succ c ih =>
    intro n hn he
    refine U18_1 _ _ _ _ _ (Ev.eq (fun _ => Q18_1 _ _ _ _ _ _) ?_)
    have hlt : n < b.2.1.length := by omega
    rw [dec_t (show (n : Int) < (b.2.1.length : Int) by omega), dec_t (show (0 : Int) ≤ (n : Int) by omega), Int.toNat_natCast, getD_lt hlt, L78_1, ors]
    simp only [Bool.and_self, cond_true, Option.bind_some]
    rw [List.drop_eq_getElem_cons hlt, numsE] at he
    have hih := ih (n + 1) (by omega)
    generalize b.2.1[n] = ws at *
    by_cases hm : 1 ≤ ws.length ∧ ws.length ≤ 3
    ·rw [dec_f (by omega)]
     rw [if_pos hm] at he
     refine ways y ws n (by omega) hm.2 (fun hnone => ?_) (fun e hsome => ?_) ws.length 0 (by omega) (by rw [List.drop_zero])
     ·rw [hnone] at he
      exact hih he
     ·rw [hsome] at he
      rw [hy, ← he]
      rfl
    ·rw [dec_t (by omega), hy, ← he, if_neg hm]
     exact Ev.all fun _ => by first | rfl | trivial
  have rows : ∀ (c i : Nat), i + c = b.1.length → rowsE (b.1.drop i) i = rowsE b.1 0 → Ev fun k => T18_0 b.1 b.1.length i b.1 b k = some (endR b (rowsE b.1 0)) := by
   intro c
   induction c with
   | zero =>
    intro i hi he
    refine U18_0 _ _ _ _ _ (Ev.eq (fun _ => Q18_0 _ _ _ _ _ _) ?_)
    rw [List.drop_eq_nil_of_le (by omega)] at he
    rw [dec_f (show ¬ ((i : Int) < (b.1.length : Int)) by omega), ← he]
    simp only [rowsE, endR, cond_false]
    rw [L78_1, ors]
    simp only [Option.bind_some]
    by_cases h6 : 6 < b.2.1.length
    ·rw [if_pos h6, dec_t (by omega)]
     exact Ev.all fun _ => by first | rfl | trivial
    ·rw [if_neg h6, dec_f (by omega)]
     exact nums _ (by omega) rfl b.2.1.length 0 (by omega) (by rw [List.drop_zero])
   | succ c ih =>
    intro i hi he
    refine U18_0 _ _ _ _ _ (Ev.eq (fun _ => Q18_0 _ _ _ _ _ _) ?_)
    have hlt : i < b.1.length := by omega
    rw [List.drop_eq_getElem_cons hlt, rowsE] at he
    rw [dec_t (show (i : Int) < (b.1.length : Int) by omega), dec_t (show (0 : Int) ≤ (i : Int) by omega), wrap_succ (n := i) (by omega), Int.toNat_natCast, getD_lt hlt, L78_1, ors]
    simp only [Bool.and_self, cond_true, Option.bind_some]
    by_cases hr : 0 ≤ b.1[i].1 ∧ b.1[i].1 ≤ 99
    ·rw [if_pos hr] at he
     rw [dec_f (by omega)]
     exact ih (i + 1) (by omega) he
    ·rw [if_neg hr] at he
     rw [dec_t (by omega), ← he]
     exact Ev.all fun _ => by first | rfl | trivial
  exact rows b.1.length 0 (by omega) (by rw [List.drop_zero])
end Go.Proofs.Ytallblpnlefpeaa
/- Numbers that stand, their values, and two ways that clash: what these come to. Conditions: as each lemma states. -/
namespace Go.Proofs.Ytallblpnlefpeaa
open Go Go.Gh Go.Proofs
def enterE (b : Bk) (n below : Int) : Int := if (chkP b).2.2.1 ≠ 0 then (chkP b).2.2.1 else if n < 0 ∨ below - 1 < n then 4 else 0
def hnd (b : Bk) (e : Int) : Option (Bk × Unit) := if e = 0 then some (b, ()) else none
theorem enterE_ok {b : Bk} {n below : Int} (h : enterE b n below = 0) : VB b ∧ 0 ≤ n ∧ n < below := by
 unfold enterE at h
 split at h
 ·contradiction
 ·rename_i h1
  split at h
  ·cases h
  ·exact ⟨VB_of (Classical.not_not.1 h1), by omega, by omega⟩
theorem L88 (b : Bk) (n below : Int) (hbl : VB b → 0 ≤ below ∧ below ≤ 1000) : F88 ((b, n, below, ()) : Bk × Int × Int × Unit) = some (hnd b (enterE b n below), enterE b n below, ()) := by
 refine ghost_eq (Ev.eq (fun _ => E88 _ _ _ _) ?_)
 rw [L18]
 simp only [Option.bind_some]
 unfold enterE hnd
 by_cases h : (chkP b).2.2.1 = 0
 ·have := hbl (VB_of h)
  rw [h, L78_1, ors, L112, wrap_id (by omega) (by omega)]
  simp only [Option.bind_some, ne_eq, not_true_eq_false, if_false]
  by_cases h2 : n < 0 ∨ below - 1 < n
  ·rw [if_pos h2, dec_t (show n < 0 ∨ n > below - 1 from h2)]
   exact Ev.all fun _ => by first | rfl | trivial
  ·rw [if_neg h2, dec_f (show ¬ (n < 0 ∨ n > below - 1) from h2)]
   exact Ev.all fun _ => by first | rfl | trivial
 ·rw [if_pos h, if_neg h, bne_iff_ne.2 h]
  exact Ev.all fun _ => by first | rfl | trivial
theorem L96 (b : Bk) (hv : VB b) (n rows : Nat) (hn : n < 6) (hr : rows < 1099511627776) : F96 ((some ((b, ()) : Bk × Unit), (n : Int), (rows : Int), ()) : Option (Bk × Unit) × Int × Int × Unit) = some (((allP b rows).getD n fd0).1, ()) := by
 refine ghost_eq (Ev.eq (fun _ => E96 _ _ _ _) ?_)
 rw [L85 b hv rows hr, dec_t (show (0 : Int) ≤ (n : Int) by omega), dec_t (show (n : Int) < 6 by omega), Int.toNat_natCast, dec_t hn]
 exact Ev.all fun _ => by first | rfl | trivial
def standE (b : Bk) (n : Int) : Int := if enterE b n b.2.1.length ≠ 0 then enterE b n b.2.1.length else if ((allP b (rowsN b)).getD n.toNat fd0).1 = true then 0 else 8
theorem standE_ok {b : Bk} {n : Int} (h : standE b n = 0) : VB b ∧ 0 ≤ n ∧ n < b.2.1.length ∧ ((allP b (rowsN b)).getD n.toNat fd0).1 = true := by
 unfold standE at h
 split at h
 ·contradiction
 ·rename_i h1
  obtain ⟨h2, h3, h4⟩ := enterE_ok (Classical.not_not.1 h1)
  split at h
  ·exact ⟨h2, h3, h4, by assumption⟩
  ·cases h
theorem rowsN_lt {b : Bk} (h8 : b.1.length ≤ 8) : rowsN b < 2 ^ 8 := Few.bitsL_lt fun x hx => by
 obtain ⟨n, h1, _, rfl⟩ := numsL_mem.1 hx
 omega
theorem L84 (b : Bk) (n : Int) : F84 ((b, n, ()) : Bk × Int × Unit) = some (hnd b (standE b n), standE b n, ()) := by
 refine ghost_eq (Ev.eq (fun _ => E84 _ _ _) ?_)
 rw [L88 b n _ fun hv => ⟨by omega, by have := hv.n6; omega⟩]
 simp only [Option.bind_some]
 unfold standE hnd
 by_cases h : enterE b n b.2.1.length = 0
 ·obtain ⟨hv, h0, h1⟩ := enterE_ok h
  have h6 := hv.n6
  obtain ⟨m, rfl⟩ := Int.eq_ofNat_of_zero_le h0
  have hr := rowsN_lt hv.r8
  rw [h, if_pos rfl, L86 b hv.r8]
  simp only [Option.bind_some, ne_eq, not_true_eq_false, if_false]
  rw [L96 b hv m _ (by omega) (by omega), Int.toNat_natCast]
  cases hs : ((allP b (rowsN b)).getD m fd0).1 <;> exact Ev.all fun _ => by first | rfl | trivial
 ·rw [if_neg h, if_pos h, bne_iff_ne.2 h, if_neg h]
  exact Ev.all fun _ => by first | rfl | trivial
def valueP (b : Bk) (n : Int) : Int × Int × Unit := (if standE b n = 0 then ((allP b (rowsN b)).getD n.toNat fd0).2.1 else 0, standE b n, ())
theorem L20 (b : Bk) (n : Int) : F20 ((b, n, ()) : Bk × Int × Unit) = some (valueP b n) := by
 refine ghost_eq (Ev.eq (fun _ => E20 _ _ _) ?_)
 rw [L84]
 simp only [Option.bind_some]
 unfold valueP hnd
 by_cases h : standE b n = 0
 ·obtain ⟨hv, h0, h1, h2⟩ := standE_ok h
  have h6 := hv.n6
  obtain ⟨m, rfl⟩ := Int.eq_ofNat_of_zero_le h0
  have hr := rowsN_lt hv.r8
  rw [h, if_pos rfl, L86 b hv.r8]
  simp only [Option.bind_some, if_true]
  rw [L85 b hv _ (by omega), Int.toNat_natCast, dec_t (show (0 : Int) ≤ (m : Int) by omega), dec_t (show (m : Int) < 6 by omega), dec_t (show m < 6 by omega)]
  exact Ev.all fun _ => by first | rfl | trivial
 ·rw [if_neg h, bne_iff_ne.2 h, if_neg h]
  exact Ev.all fun _ => by first | rfl | trivial
def clK (x : Fd) : List Fd → Nat → Option Nat
 | [], _ => none
 | y :: r, k => if x.1 = true ∧ y.1 = true ∧ y ≠ x then some k else clK x r (k + 1)
def clI : List Fd → Nat → Option (Nat × Nat)
 | [], _ => none
 | x :: r, i => match clK x r (i + 1) with | some k => some (i, k) | none => clI r (i + 1)
def clN (b : Bk) (rows : Int) (l : List Fd) : List (List Wy) → Nat → Option (Nat × Nat × Nat)
 | [], _ => none
 | ws :: r, n => match clI (ws.map fun w => makesP b w rows l) 0 with | some (i, k) => some (n, i, k) | none => clN b rows l r (n + 1)
def clashP (b : Bk) (rows : Int) : Option (Nat × Nat × Nat) := clN b rows (allP b rows) b.2.1 0
theorem clK_f {x : Fd} (h : x.1 = false) : ∀ (l : List Fd) (k : Nat), clK x l k = none
 | [], _ => rfl
 | y :: r, k => by rw [clK, if_neg (by rw [h]; rintro ⟨h, _⟩; cases h)]; exact clK_f h r _
def endC : Option (Nat × Nat × Nat) → Int × Int × Int × Bool × Unit
 | some (n, i, k) => ((n : Int), (i : Int), (k : Int), true, ())
 | none => (0, 0, 0, false, ())
theorem L89 (b : Bk) (hv : VB b) (rows : Nat) (hr : rows < 1099511627776) : F89 ((some ((b, ()) : Bk × Unit), (rows : Int), ()) : Option (Bk × Unit) × Int × Unit) = some (endC (clashP b rows)) := by
 refine ghost_eq (Ev.eq (fun _ => E89 _ _ _) ?_)
 rw [L85 b hv rows hr]
 simp only [Option.bind_some]
 have n6 := hv.n6
 have hcap : ∀ i, i < 6 → 0 ≤ ((allP b rows).getD i fd0).2.1 ∧ ((allP b rows).getD i fd0).2.1 ≤ 1000000 := fun i hi => allN_cap hv rows (Nat.le_refl _) hi
 generalize hl : allP b rows = l at *
 have mk : ∀ n, n < b.2.1.length → ∀ w ∈ b.2.1.getD n [], F111 ((some ((b, ()) : Bk × Unit), w, (rows : Int), l, ()) : Option (Bk × Unit) × Wy × Int × List Fd × Unit) = some (makesP b w rows l, ()) := fun n hn w hw => L111 b hv w (by omega) (hv.ways n hn w hw) rows hr l hcap
 have key : ∀ (y : denL [(.int .i64), (.int .i64), (.int .i64), .bool]), y = endC (clN b rows l b.2.1 0) → ∀ (c n : Nat), n + c = b.2.1.length → clN b rows l (b.2.1.drop n) n = clN b rows l b.2.1 0 → Ev fun k => T89_0 (some (b, ())) rows b.2.1 b.2.1.length n l k = some y := by
  intro y hy c
  induction c with
  | zero =>
   intro n hn he
   refine U89_0 _ _ _ _ _ _ (Ev.eq (fun _ => Q89_0 _ _ _ _ _ _ _) ?_)
   rw [List.drop_eq_nil_of_le (by omega)] at he
   rw [dec_f (by omega), hy, ← he]
   exact Ev.all fun _ => by first | rfl | trivial
  | succ c ih =>
   intro n hn he
   refine U89_0 _ _ _ _ _ _ (Ev.eq (fun _ => Q89_0 _ _ _ _ _ _ _) ?_)
   have hlt : n < b.2.1.length := by omega
   have hih := ih (n + 1) (by omega)
   have hm := hv.many n hlt
   have hmk := mk n hlt
   rw [dec_t (show (n : Int) < (b.2.1.length : Int) by omega), dec_t (show (0 : Int) ≤ (n : Int) by omega), Int.toNat_natCast]
   simp only [Bool.and_self, cond_true]
   rw [List.drop_eq_getElem_cons hlt, clN, ← getD_lt (z := []) hlt] at he
   generalize b.2.1.getD n [] = ws at *
   have ways : ∀ (c i : Nat), i + c = ws.length → clI ((ws.drop i).map fun w => makesP b w rows l) i = clI (ws.map fun w => makesP b w rows l) 0 → Ev fun k => T89_1 (some (b, ())) rows n ws b.2.1 b.2.1.length n ws.length i l k = some y := by
    intro c
    induction c with
    | zero =>
     intro i hi hw
     refine U89_1 _ _ _ _ _ _ _ _ _ _ (Ev.eq (fun _ => Q89_1 _ _ _ _ _ _ _ _ _ _ _) ?_)
     rw [List.drop_eq_nil_of_le (by omega)] at hw
     rw [dec_f (show ¬ ((i : Int) < (ws.length : Int)) by omega), wrap_succ (n := n) (by omega)]
     rw [← hw] at he
     exact hih he
    | succ c ih2 =>
     intro i hi hw
     refine U89_1 _ _ _ _ _ _ _ _ _ _ (Ev.eq (fun _ => Q89_1 _ _ _ _ _ _ _ _ _ _ _) ?_)
     have hil : i < ws.length := by omega
     have hih2 := ih2 (i + 1) (by omega)
     rw [dec_t (show (i : Int) < (ws.length : Int) by omega), dec_t (show (0 : Int) ≤ (i : Int) by omega), Int.toNat_natCast, getD_lt hil, hmk _ (List.getElem_mem hil), wrap_succ (n := i) (by omega)]
     simp only [Bool.and_self, cond_true, Option.bind_some]
     rw [List.drop_eq_getElem_cons hil, List.map_cons, clI] at hw
     generalize makesP b ws[i] rows l = x at *
     have goes : clK x ((ws.drop (i + 1)).map fun w => makesP b w rows l) (i + 1) = none → Ev fun k => T89_1 (some (b, ())) rows n ws b.2.1 b.2.1.length n ws.length ((i + 1 : Nat) : Int) l k = some y := fun h => by
      rw [h] at hw
      exact hih2 hw
     have other : ∀ (c k : Nat), k + c = ws.length → clK x ((ws.drop k).map fun w => makesP b w rows l) k = clK x ((ws.drop (i + 1)).map fun w => makesP b w rows l) (i + 1) → Ev fun f => T89_2 (some (b, ())) rows n ws i k b.2.1 b.2.1.length n ws.length i l x f = some y := by
      intro c
      induction c with
      | zero =>
       intro k hk hx
       refine U89_2 _ _ _ _ _ _ _ _ _ _ _ _ _ (Ev.eq (fun _ => Q89_2 _ _ _ _ _ _ _ _ _ _ _ _ _ _) ?_)
       rw [List.drop_eq_nil_of_le (show ws.length ≤ k by omega)] at hx
       rw [dec_f (show ¬ ((k : Int) < (ws.length : Int)) by omega), wrap_succ (n := i) (by omega)]
       cases x.1 <;> exact goes hx.symm
      | succ c ih3 =>
       intro k hk hx
       refine U89_2 _ _ _ _ _ _ _ _ _ _ _ _ _ (Ev.eq (fun _ => Q89_2 _ _ _ _ _ _ _ _ _ _ _ _ _ _) ?_)
       have hkl : k < ws.length := by omega
       rw [dec_t (show (k : Int) < (ws.length : Int) by omega), dec_t (show (0 : Int) ≤ (k : Int) by omega), Int.toNat_natCast, getD_lt hkl, hmk _ (List.getElem_mem hkl), wrap_succ (n := i) (by omega), wrap_succ (n := k) (by omega)]
       simp only [Bool.and_self, cond_true, Option.bind_some]
       cases hx1 : x.1 with
       | false =>
        exact goes (clK_f hx1 _ _)
       | true =>
        rw [List.drop_eq_getElem_cons hkl, List.map_cons, clK] at hx
        have hih3 := ih3 (k + 1) (by omega)
        generalize makesP b ws[k] rows l = z at *
        rw [eqF]
        simp only [cond_true]
        cases hz : z.1 with
        | false =>
         rw [if_neg (by rw [hz]; rintro ⟨_, h, _⟩; cases h)] at hx
         exact hih3 hx
        | true =>
         by_cases hne : z = x
         ·rw [if_neg (fun h => h.2.2 hne)] at hx
          rw [dec_t hne]
          exact hih3 hx
         ·rw [if_pos ⟨hx1, hz, hne⟩] at hx
          rw [← hx] at hw
          rw [dec_f hne]
          simp only at hw
          rw [← hw] at he
          simp only at he
          rw [hy, ← he]
          exact Ev.all fun _ => by first | rfl | trivial
     exact other (ws.length - (i + 1)) (i + 1) (by omega) rfl
   exact ways ws.length 0 (by omega) (by rw [List.drop_zero])
 have hk := key _ rfl b.2.1.length 0 (by omega) (by rw [List.drop_zero])
 rw [show clashP b rows = clN b rows l b.2.1 0 by unfold clashP; rw [hl]]
 exact hk
def clashR (b : Bk) : Int × Int × Int × Int × Unit :=
 if (chkP b).2.2.1 ≠ 0 then (0, 0, 0, (chkP b).2.2.1, ()) else match clashP b (rowsN b) with
  | some (n, i, k) => ((n : Int), (i : Int), (k : Int), 0, ())
  | none => (0, 0, 0, 9, ())
theorem enterE_0 (b : Bk) : enterE b 0 1 = (chkP b).2.2.1 := by
 unfold enterE
 split
 ·rfl
 ·rename_i h
  rw [if_neg (by omega), Classical.not_not.1 h]
theorem L22 (b : Bk) : F22 ((b, ()) : Bk × Unit) = some (clashR b) := by
 refine ghost_eq (Ev.eq (fun _ => E22 _ _) ?_)
 rw [L88 b 0 1 fun _ => ⟨by omega, by omega⟩, enterE_0]
 simp only [Option.bind_some]
 unfold clashR hnd
 by_cases h : (chkP b).2.2.1 = 0
 ·have hv := VB_of h
  have hr := rowsN_lt hv.r8
  rw [h, if_pos rfl, L86 b hv.r8]
  simp only [Option.bind_some, ne_eq, not_true_eq_false, if_false]
  rw [L89 b hv _ (by omega)]
  rcases clashP b (rowsN b) with _ | ⟨n, i, k⟩ <;> exact Ev.all fun _ => by first | rfl | trivial
 ·rw [if_neg h, if_pos h, bne_iff_ne.2 h]
  exact Ev.all fun _ => by first | rfl | trivial
end Go.Proofs.Ytallblpnlefpeaa
