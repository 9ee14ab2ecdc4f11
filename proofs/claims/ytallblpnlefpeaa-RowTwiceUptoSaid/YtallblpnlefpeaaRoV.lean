/- States at the cuts. Conditions: none. -/
import Derived.Test.YtallblpnlefpeaaRoC
import Derived.Test.YtallblpnlefpeaaRoE
namespace Go.Proofs.Ytallblpnlefpeaa
open Go Go.Gh Go.Proofs
noncomputable abbrev T40_0 (t0 : Int) (t1 : Int) (f : Nat) : Option (denL [.bool]) := iter cx51 S40 [.bool] 6000 f 0 K40_0 (((t0, (t1, ())), ()), ())
theorem U40_0 (t0 : Int) (t1 : Int) {y : denL [.bool]} (h : Ev fun k => seg cx51 S40 [.bool] 6000 some (iter cx51 S40 [.bool] 6000 k) 0 K40_0 (((t0, (t1, ())), ()), ()) = some y) : Ev fun k => T40_0 t0 t1 k = some y := iter_ev h
noncomputable abbrev T27_0 (t0 : (List Int)) (t1 : (List Int)) (t5 : Bool) (t6 : Int) (f : Nat) : Option (denL [.bool]) := iter cx40 S27 [.bool] 6000 f 0 K27_0 (((t0, (t1, (t5, (t6, ())))), ()), ())
theorem U27_0 (t0 : (List Int)) (t1 : (List Int)) (t5 : Bool) (t6 : Int) {y : denL [.bool]} (h : Ev fun k => seg cx40 S27 [.bool] 6000 some (iter cx40 S27 [.bool] 6000 k) 0 K27_0 (((t0, (t1, (t5, (t6, ())))), ()), ()) = some y) : Ev fun k => T27_0 t0 t1 t5 t6 k = some y := iter_ev h
noncomputable abbrev T45_0 (t0 : (List Int)) (t1 : Int) (t5 : Int) (f : Nat) : Option (denL [.bool]) := iter cx27 S45 [.bool] 6000 f 0 K45_0 (((t0, (t1, (t5, ()))), ()), ())
theorem U45_0 (t0 : (List Int)) (t1 : Int) (t5 : Int) {y : denL [.bool]} (h : Ev fun k => seg cx27 S45 [.bool] 6000 some (iter cx27 S45 [.bool] 6000 k) 0 K45_0 (((t0, (t1, (t5, ()))), ()), ()) = some y) : Ev fun k => T45_0 t0 t1 t5 k = some y := iter_ev h
noncomputable abbrev T110_0 (t0 : Int) (t3 : Int) (t4 : Int) (f : Nat) : Option (denL [(.int .i64)]) := iter cx45 S110 [(.int .i64)] 6000 f 0 K110_0 (((t0, (t3, (t4, ()))), ()), ())
theorem U110_0 (t0 : Int) (t3 : Int) (t4 : Int) {y : denL [(.int .i64)]} (h : Ev fun k => seg cx45 S110 [(.int .i64)] 6000 some (iter cx45 S110 [(.int .i64)] 6000 k) 0 K110_0 (((t0, (t3, (t4, ()))), ()), ()) = some y) : Ev fun k => T110_0 t0 t3 t4 k = some y := iter_ev h
noncomputable abbrev T19_0 (t5 : Int) (h0 : Bk) (f : Nat) : Option (denL [(.int .i64), (.int .i64), (.int .i64)]) := iter cx83 S19 [(.int .i64), (.int .i64), (.int .i64)] 6000 f 0 K19_0 ((((), (t5, ())), ()), (h0, ()))
theorem U19_0 (t5 : Int) (h0 : Bk) {y : denL [(.int .i64), (.int .i64), (.int .i64)]} (h : Ev fun k => seg cx83 S19 [(.int .i64), (.int .i64), (.int .i64)] 6000 some (iter cx83 S19 [(.int .i64), (.int .i64), (.int .i64)] 6000 k) 0 K19_0 ((((), (t5, ())), ()), (h0, ())) = some y) : Ev fun k => T19_0 t5 h0 k = some y := iter_ev h
noncomputable abbrev T19_1 (t6 : Int) (h0 : Bk) (f : Nat) : Option (denL [(.int .i64), (.int .i64), (.int .i64)]) := iter cx83 S19 [(.int .i64), (.int .i64), (.int .i64)] 6000 f 1 K19_1 ((((), (t6, ())), ()), (h0, ()))
theorem U19_1 (t6 : Int) (h0 : Bk) {y : denL [(.int .i64), (.int .i64), (.int .i64)]} (h : Ev fun k => seg cx83 S19 [(.int .i64), (.int .i64), (.int .i64)] 6000 some (iter cx83 S19 [(.int .i64), (.int .i64), (.int .i64)] 6000 k) 1 K19_1 ((((), (t6, ())), ()), (h0, ())) = some y) : Ev fun k => T19_1 t6 h0 k = some y := iter_ev h
noncomputable abbrev T19_2 (t6 : Int) (t7 : Int) (h0 : Bk) (f : Nat) : Option (denL [(.int .i64), (.int .i64), (.int .i64)]) := iter cx83 S19 [(.int .i64), (.int .i64), (.int .i64)] 6000 f 2 K19_2 ((((), (t6, (t7, ()))), ()), (h0, ()))
theorem U19_2 (t6 : Int) (t7 : Int) (h0 : Bk) {y : denL [(.int .i64), (.int .i64), (.int .i64)]} (h : Ev fun k => seg cx83 S19 [(.int .i64), (.int .i64), (.int .i64)] 6000 some (iter cx83 S19 [(.int .i64), (.int .i64), (.int .i64)] 6000 k) 2 K19_2 ((((), (t6, (t7, ()))), ()), (h0, ())) = some y) : Ev fun k => T19_2 t6 t7 h0 k = some y := iter_ev h
noncomputable abbrev T105_0 (t0 : Int) (t1 : (List Int)) (t5 : Int) (t6 : Int) (f : Nat) : Option (denL [(.int .i64)]) := iter cx19 S105 [(.int .i64)] 6000 f 0 K105_0 (((t0, (t1, (t5, (t6, ())))), ()), ())
theorem U105_0 (t0 : Int) (t1 : (List Int)) (t5 : Int) (t6 : Int) {y : denL [(.int .i64)]} (h : Ev fun k => seg cx19 S105 [(.int .i64)] 6000 some (iter cx19 S105 [(.int .i64)] 6000 k) 0 K105_0 (((t0, (t1, (t5, (t6, ())))), ()), ()) = some y) : Ev fun k => T105_0 t0 t1 t5 t6 k = some y := iter_ev h
noncomputable abbrev T52_0 (t2 : (List Fd)) (t9 : Int) (h0 : Bk) (h1 : Wy) (h2 : Fd) (h3 : Fd) (h4 : (List Int)) (f : Nat) : Option (denL [tFd]) := iter cx105 S52 [tFd] 6000 f 0 K52_0 (((t2, ((), ((), ((), ((), ((), (t9, ()))))))), ()), (h0, (h1, (h2, (h3, (h4, ()))))))
theorem U52_0 (t2 : (List Fd)) (t9 : Int) (h0 : Bk) (h1 : Wy) (h2 : Fd) (h3 : Fd) (h4 : (List Int)) {y : denL [tFd]} (h : Ev fun k => seg cx105 S52 [tFd] 6000 some (iter cx105 S52 [tFd] 6000 k) 0 K52_0 (((t2, ((), ((), ((), ((), ((), (t9, ()))))))), ()), (h0, (h1, (h2, (h3, (h4, ())))))) = some y) : Ev fun k => T52_0 t2 t9 h0 h1 h2 h3 h4 k = some y := iter_ev h
noncomputable abbrev T52_1 (t2 : (List Fd)) (t10 : Int) (h0 : Wy) (h1 : Fd) (h2 : Fd) (h3 : (List Int)) (f : Nat) : Option (denL [tFd]) := iter cx105 S52 [tFd] 6000 f 1 K52_1 (((t2, ((), ((), ((), ((), (t10, ())))))), ()), (h0, (h1, (h2, (h3, ())))))
theorem U52_1 (t2 : (List Fd)) (t10 : Int) (h0 : Wy) (h1 : Fd) (h2 : Fd) (h3 : (List Int)) {y : denL [tFd]} (h : Ev fun k => seg cx105 S52 [tFd] 6000 some (iter cx105 S52 [tFd] 6000 k) 1 K52_1 (((t2, ((), ((), ((), ((), (t10, ())))))), ()), (h0, (h1, (h2, (h3, ()))))) = some y) : Ev fun k => T52_1 t2 t10 h0 h1 h2 h3 k = some y := iter_ev h
noncomputable abbrev T46_0 (t4 : Int) (h0 : Bk) (h1 : (List Fd)) (f : Nat) : Option (denL [(.slice tFd)]) := iter cx52 S46 [(.slice tFd)] 6000 f 0 K46_0 ((((), ((), (t4, ()))), ()), (h0, (h1, ())))
theorem U46_0 (t4 : Int) (h0 : Bk) (h1 : (List Fd)) {y : denL [(.slice tFd)]} (h : Ev fun k => seg cx52 S46 [(.slice tFd)] 6000 some (iter cx52 S46 [(.slice tFd)] 6000 k) 0 K46_0 ((((), ((), (t4, ()))), ()), (h0, (h1, ()))) = some y) : Ev fun k => T46_0 t4 h0 h1 k = some y := iter_ev h
noncomputable abbrev T46_1 (t4 : Int) (t6 : Int) (h0 : Bk) (h1 : Fd) (h2 : (List Fd)) (f : Nat) : Option (denL [(.slice tFd)]) := iter cx52 S46 [(.slice tFd)] 6000 f 1 K46_1 ((((), ((), (t4, ((), (t6, ()))))), ()), (h0, (h1, (h2, ()))))
theorem U46_1 (t4 : Int) (t6 : Int) (h0 : Bk) (h1 : Fd) (h2 : (List Fd)) {y : denL [(.slice tFd)]} (h : Ev fun k => seg cx52 S46 [(.slice tFd)] 6000 some (iter cx52 S46 [(.slice tFd)] 6000 k) 1 K46_1 ((((), ((), (t4, ((), (t6, ()))))), ()), (h0, (h1, (h2, ())))) = some y) : Ev fun k => T46_1 t4 t6 h0 h1 h2 k = some y := iter_ev h
noncomputable abbrev T23_0 (t9 : (List Fd)) (t10 : Int) (h0 : Bk) (f : Nat) : Option (denL [(.int .i64), (.int .i64), (.int .i64), (.int .i64)]) := iter cx21 S23 [(.int .i64), (.int .i64), (.int .i64), (.int .i64)] 6000 f 0 K23_0 ((((), (t9, (t10, ()))), ()), (h0, ()))
theorem U23_0 (t9 : (List Fd)) (t10 : Int) (h0 : Bk) {y : denL [(.int .i64), (.int .i64), (.int .i64), (.int .i64)]} (h : Ev fun k => seg cx21 S23 [(.int .i64), (.int .i64), (.int .i64), (.int .i64)] 6000 some (iter cx21 S23 [(.int .i64), (.int .i64), (.int .i64), (.int .i64)] 6000 k) 0 K23_0 ((((), (t9, (t10, ()))), ()), (h0, ())) = some y) : Ev fun k => T23_0 t9 t10 h0 k = some y := iter_ev h
noncomputable abbrev T23_1 (t9 : (List Fd)) (t10 : Int) (t11 : (List Wy)) (t12 : Int) (h0 : Bk) (f : Nat) : Option (denL [(.int .i64), (.int .i64), (.int .i64), (.int .i64)]) := iter cx21 S23 [(.int .i64), (.int .i64), (.int .i64), (.int .i64)] 6000 f 1 K23_1 ((((), (t9, (t10, (t11, (t12, ()))))), ()), (h0, ()))
theorem U23_1 (t9 : (List Fd)) (t10 : Int) (t11 : (List Wy)) (t12 : Int) (h0 : Bk) {y : denL [(.int .i64), (.int .i64), (.int .i64), (.int .i64)]} (h : Ev fun k => seg cx21 S23 [(.int .i64), (.int .i64), (.int .i64), (.int .i64)] 6000 some (iter cx21 S23 [(.int .i64), (.int .i64), (.int .i64), (.int .i64)] 6000 k) 1 K23_1 ((((), (t9, (t10, (t11, (t12, ()))))), ()), (h0, ())) = some y) : Ev fun k => T23_1 t9 t10 t11 t12 h0 k = some y := iter_ev h
noncomputable abbrev T23_2 (t9 : (List Fd)) (t10 : Int) (t11 : (List Wy)) (t12 : Int) (t13 : Int) (h0 : Bk) (f : Nat) : Option (denL [(.int .i64), (.int .i64), (.int .i64), (.int .i64)]) := iter cx21 S23 [(.int .i64), (.int .i64), (.int .i64), (.int .i64)] 6000 f 2 K23_2 ((((), (t9, (t10, (t11, (t12, (t13, ())))))), ()), (h0, ()))
theorem U23_2 (t9 : (List Fd)) (t10 : Int) (t11 : (List Wy)) (t12 : Int) (t13 : Int) (h0 : Bk) {y : denL [(.int .i64), (.int .i64), (.int .i64), (.int .i64)]} (h : Ev fun k => seg cx21 S23 [(.int .i64), (.int .i64), (.int .i64), (.int .i64)] 6000 some (iter cx21 S23 [(.int .i64), (.int .i64), (.int .i64), (.int .i64)] 6000 k) 2 K23_2 ((((), (t9, (t10, (t11, (t12, (t13, ())))))), ()), (h0, ())) = some y) : Ev fun k => T23_2 t9 t10 t11 t12 t13 h0 k = some y := iter_ev h
noncomputable abbrev T41_0 (t1 : Int) (t6 : Int) (h0 : Bk) (h1 : (List Bool)) (f : Nat) : Option (denL [(.slice .bool)]) := iter cx23 S41 [(.slice .bool)] 6000 f 0 K41_0 (((t1, ((), ((), (t6, ())))), ()), (h0, (h1, ())))
theorem U41_0 (t1 : Int) (t6 : Int) (h0 : Bk) (h1 : (List Bool)) {y : denL [(.slice .bool)]} (h : Ev fun k => seg cx23 S41 [(.slice .bool)] 6000 some (iter cx23 S41 [(.slice .bool)] 6000 k) 0 K41_0 (((t1, ((), ((), (t6, ())))), ()), (h0, (h1, ()))) = some y) : Ev fun k => T41_0 t1 t6 h0 h1 k = some y := iter_ev h
noncomputable abbrev T41_1 (t1 : Int) (t6 : Int) (t7 : Bool) (t8 : Int) (h0 : Bk) (h1 : (List Bool)) (f : Nat) : Option (denL [(.slice .bool)]) := iter cx23 S41 [(.slice .bool)] 6000 f 1 K41_1 (((t1, ((), ((), (t6, (t7, (t8, ())))))), ()), (h0, (h1, ())))
theorem U41_1 (t1 : Int) (t6 : Int) (t7 : Bool) (t8 : Int) (h0 : Bk) (h1 : (List Bool)) {y : denL [(.slice .bool)]} (h : Ev fun k => seg cx23 S41 [(.slice .bool)] 6000 some (iter cx23 S41 [(.slice .bool)] 6000 k) 1 K41_1 (((t1, ((), ((), (t6, (t7, (t8, ())))))), ()), (h0, (h1, ()))) = some y) : Ev fun k => T41_1 t1 t6 t7 t8 h0 h1 k = some y := iter_ev h
noncomputable abbrev T41_2 (t1 : Int) (t6 : Int) (t7 : Bool) (t8 : Int) (t10 : Int) (h0 : Bk) (h1 : Wy) (h2 : (List Bool)) (f : Nat) : Option (denL [(.slice .bool)]) := iter cx23 S41 [(.slice .bool)] 6000 f 2 K41_2 (((t1, ((), ((), (t6, (t7, (t8, ((), (t10, ())))))))), ()), (h0, (h1, (h2, ()))))
theorem U41_2 (t1 : Int) (t6 : Int) (t7 : Bool) (t8 : Int) (t10 : Int) (h0 : Bk) (h1 : Wy) (h2 : (List Bool)) {y : denL [(.slice .bool)]} (h : Ev fun k => seg cx23 S41 [(.slice .bool)] 6000 some (iter cx23 S41 [(.slice .bool)] 6000 k) 2 K41_2 (((t1, ((), ((), (t6, (t7, (t8, ((), (t10, ())))))))), ()), (h0, (h1, (h2, ())))) = some y) : Ev fun k => T41_2 t1 t6 t7 t8 t10 h0 h1 h2 k = some y := iter_ev h
noncomputable abbrev T41_3 (t1 : Int) (t6 : Int) (t7 : Bool) (t8 : Int) (t11 : Int) (h0 : Bk) (h1 : Wy) (h2 : (List Bool)) (f : Nat) : Option (denL [(.slice .bool)]) := iter cx23 S41 [(.slice .bool)] 6000 f 3 K41_3 (((t1, ((), ((), (t6, (t7, (t8, ((), (t11, ())))))))), ()), (h0, (h1, (h2, ()))))
theorem U41_3 (t1 : Int) (t6 : Int) (t7 : Bool) (t8 : Int) (t11 : Int) (h0 : Bk) (h1 : Wy) (h2 : (List Bool)) {y : denL [(.slice .bool)]} (h : Ev fun k => seg cx23 S41 [(.slice .bool)] 6000 some (iter cx23 S41 [(.slice .bool)] 6000 k) 3 K41_3 (((t1, ((), ((), (t6, (t7, (t8, ((), (t11, ())))))))), ()), (h0, (h1, (h2, ())))) = some y) : Ev fun k => T41_3 t1 t6 t7 t8 t11 h0 h1 h2 k = some y := iter_ev h
noncomputable abbrev T95_0 (t0 : (List Int)) (t3 : Int) (t4 : Int) (f : Nat) : Option (denL [(.int .i64)]) := iter cx41 S95 [(.int .i64)] 6000 f 0 K95_0 (((t0, (t3, (t4, ()))), ()), ())
theorem U95_0 (t0 : (List Int)) (t3 : Int) (t4 : Int) {y : denL [(.int .i64)]} (h : Ev fun k => seg cx41 S95 [(.int .i64)] 6000 some (iter cx41 S95 [(.int .i64)] 6000 k) 0 K95_0 (((t0, (t3, (t4, ()))), ()), ()) = some y) : Ev fun k => T95_0 t0 t3 t4 k = some y := iter_ev h
noncomputable abbrev T95_1 (t0 : (List Int)) (t3 : Int) (t4 : Int) (t5 : Int) (t6 : Int) (f : Nat) : Option (denL [(.int .i64)]) := iter cx41 S95 [(.int .i64)] 6000 f 1 K95_1 (((t0, (t3, (t4, (t5, (t6, ()))))), ()), ())
theorem U95_1 (t0 : (List Int)) (t3 : Int) (t4 : Int) (t5 : Int) (t6 : Int) {y : denL [(.int .i64)]} (h : Ev fun k => seg cx41 S95 [(.int .i64)] 6000 some (iter cx41 S95 [(.int .i64)] 6000 k) 1 K95_1 (((t0, (t3, (t4, (t5, (t6, ()))))), ()), ()) = some y) : Ev fun k => T95_1 t0 t3 t4 t5 t6 k = some y := iter_ev h
noncomputable abbrev T26_0 (t7 : (List Bool)) (t9 : Int) (h0 : (List Int)) (f : Nat) : Option (denL [(.slice (.int .i64)), (.int .i64)]) := iter cx95 S26 [(.slice (.int .i64)), (.int .i64)] 6000 f 0 K26_0 (((t7, ((), (t9, ()))), ()), (h0, ()))
theorem U26_0 (t7 : (List Bool)) (t9 : Int) (h0 : (List Int)) {y : denL [(.slice (.int .i64)), (.int .i64)]} (h : Ev fun k => seg cx95 S26 [(.slice (.int .i64)), (.int .i64)] 6000 some (iter cx95 S26 [(.slice (.int .i64)), (.int .i64)] 6000 k) 0 K26_0 (((t7, ((), (t9, ()))), ()), (h0, ())) = some y) : Ev fun k => T26_0 t7 t9 h0 k = some y := iter_ev h
noncomputable abbrev T44_0 (t1 : (List Int)) (t5 : Int) (h0_1 : (List (List Wy))) (h1 : Bk) (h2 : (List Rw)) (f : Nat) : Option (denL [tBk]) := iter cx26 S44 [tBk] 6000 f 0 K44_0 (((t1, ((), ((), (t5, ())))), ()), (((), (h0_1, ())), (h1, (h2, ()))))
theorem U44_0 (t1 : (List Int)) (t5 : Int) (h0_1 : (List (List Wy))) (h1 : Bk) (h2 : (List Rw)) {y : denL [tBk]} (h : Ev fun k => seg cx26 S44 [tBk] 6000 some (iter cx26 S44 [tBk] 6000 k) 0 K44_0 (((t1, ((), ((), (t5, ())))), ()), (((), (h0_1, ())), (h1, (h2, ())))) = some y) : Ev fun k => T44_0 t1 t5 h0_1 h1 h2 k = some y := iter_ev h
noncomputable abbrev T29_0 (t7 : (List Fd)) (t8 : (List Fd)) (t10 : Int) (h0 : (List Int)) (f : Nat) : Option (denL [(.slice (.int .i64)), (.int .i64)]) := iter cx44 S29 [(.slice (.int .i64)), (.int .i64)] 6000 f 0 K29_0 (((t7, (t8, ((), (t10, ())))), ()), (h0, ()))
theorem U29_0 (t7 : (List Fd)) (t8 : (List Fd)) (t10 : Int) (h0 : (List Int)) {y : denL [(.slice (.int .i64)), (.int .i64)]} (h : Ev fun k => seg cx44 S29 [(.slice (.int .i64)), (.int .i64)] 6000 some (iter cx44 S29 [(.slice (.int .i64)), (.int .i64)] 6000 k) 0 K29_0 (((t7, (t8, ((), (t10, ())))), ()), (h0, ())) = some y) : Ev fun k => T29_0 t7 t8 t10 h0 k = some y := iter_ev h
noncomputable abbrev T47_0 (t4 : Int) (h0 : Bk) (h1 : (List Int)) (f : Nat) : Option (denL [(.slice (.int .i64))]) := iter cx29 S47 [(.slice (.int .i64))] 6000 f 0 K47_0 ((((), ((), (t4, ()))), ()), (h0, (h1, ())))
theorem U47_0 (t4 : Int) (h0 : Bk) (h1 : (List Int)) {y : denL [(.slice (.int .i64))]} (h : Ev fun k => seg cx29 S47 [(.slice (.int .i64))] 6000 some (iter cx29 S47 [(.slice (.int .i64))] 6000 k) 0 K47_0 ((((), ((), (t4, ()))), ()), (h0, (h1, ()))) = some y) : Ev fun k => T47_0 t4 h0 h1 k = some y := iter_ev h
noncomputable abbrev T100_0 (t0 : (List Int)) (t1 : (List Int)) (t6 : Int) (h0 : (List Int)) (f : Nat) : Option (denL [(.slice (.int .i64))]) := iter cx47 S100 [(.slice (.int .i64))] 6000 f 0 K100_0 (((t0, (t1, ((), (t6, ())))), ()), (h0, ()))
theorem U100_0 (t0 : (List Int)) (t1 : (List Int)) (t6 : Int) (h0 : (List Int)) {y : denL [(.slice (.int .i64))]} (h : Ev fun k => seg cx47 S100 [(.slice (.int .i64))] 6000 some (iter cx47 S100 [(.slice (.int .i64))] 6000 k) 0 K100_0 (((t0, (t1, ((), (t6, ())))), ()), (h0, ())) = some y) : Ev fun k => T100_0 t0 t1 t6 h0 k = some y := iter_ev h
noncomputable abbrev T117_0 (t0 : Int) (t1 : Int) (t5 : (List (List Int))) (t6 : Int) (f : Nat) : Option (denL [(.slice (.slice (.int .i64)))]) := iter cx48 S117 [(.slice (.slice (.int .i64)))] 6000 f 0 K117_0 (((t0, (t1, (t5, (t6, ())))), ()), ())
theorem U117_0 (t0 : Int) (t1 : Int) (t5 : (List (List Int))) (t6 : Int) {y : denL [(.slice (.slice (.int .i64)))]} (h : Ev fun k => seg cx48 S117 [(.slice (.slice (.int .i64)))] 6000 some (iter cx48 S117 [(.slice (.slice (.int .i64)))] 6000 k) 0 K117_0 (((t0, (t1, (t5, (t6, ())))), ()), ()) = some y) : Ev fun k => T117_0 t0 t1 t5 t6 k = some y := iter_ev h
noncomputable abbrev T117_1 (t0 : Int) (t1 : Int) (t5 : (List (List Int))) (t6 : Int) (t8 : Int) (h0 : (List (List Int))) (f : Nat) : Option (denL [(.slice (.slice (.int .i64)))]) := iter cx48 S117 [(.slice (.slice (.int .i64)))] 6000 f 1 K117_1 (((t0, (t1, (t5, (t6, ((), (t8, ())))))), ()), (h0, ()))
theorem U117_1 (t0 : Int) (t1 : Int) (t5 : (List (List Int))) (t6 : Int) (t8 : Int) (h0 : (List (List Int))) {y : denL [(.slice (.slice (.int .i64)))]} (h : Ev fun k => seg cx48 S117 [(.slice (.slice (.int .i64)))] 6000 some (iter cx48 S117 [(.slice (.slice (.int .i64)))] 6000 k) 1 K117_1 (((t0, (t1, (t5, (t6, ((), (t8, ())))))), ()), (h0, ())) = some y) : Ev fun k => T117_1 t0 t1 t5 t6 t8 h0 k = some y := iter_ev h
noncomputable abbrev T117_2 (t0 : Int) (t1 : Int) (t5 : (List (List Int))) (t6 : Int) (t8 : Int) (t10 : Int) (h0 : (List (List Int))) (f : Nat) : Option (denL [(.slice (.slice (.int .i64)))]) := iter cx48 S117 [(.slice (.slice (.int .i64)))] 6000 f 2 K117_2 (((t0, (t1, (t5, (t6, ((), (t8, (t10, ()))))))), ()), (h0, ()))
theorem U117_2 (t0 : Int) (t1 : Int) (t5 : (List (List Int))) (t6 : Int) (t8 : Int) (t10 : Int) (h0 : (List (List Int))) {y : denL [(.slice (.slice (.int .i64)))]} (h : Ev fun k => seg cx48 S117 [(.slice (.slice (.int .i64)))] 6000 some (iter cx48 S117 [(.slice (.slice (.int .i64)))] 6000 k) 2 K117_2 (((t0, (t1, (t5, (t6, ((), (t8, (t10, ()))))))), ()), (h0, ())) = some y) : Ev fun k => T117_2 t0 t1 t5 t6 t8 t10 h0 k = some y := iter_ev h
noncomputable abbrev T99_0 (t0 : (List Int)) (t1 : Int) (t5 : (List (List Int))) (t7 : Int) (h0 : (List (List Int))) (f : Nat) : Option (denL [(.slice (.slice (.int .i64)))]) := iter cx117 S99 [(.slice (.slice (.int .i64)))] 6000 f 0 K99_0 (((t0, (t1, (t5, ((), (t7, ()))))), ()), (h0, ()))
theorem U99_0 (t0 : (List Int)) (t1 : Int) (t5 : (List (List Int))) (t7 : Int) (h0 : (List (List Int))) {y : denL [(.slice (.slice (.int .i64)))]} (h : Ev fun k => seg cx117 S99 [(.slice (.slice (.int .i64)))] 6000 some (iter cx117 S99 [(.slice (.slice (.int .i64)))] 6000 k) 0 K99_0 (((t0, (t1, (t5, ((), (t7, ()))))), ()), (h0, ())) = some y) : Ev fun k => T99_0 t0 t1 t5 t7 h0 k = some y := iter_ev h
noncomputable abbrev T99_1 (t0 : (List Int)) (t1 : Int) (t5 : (List (List Int))) (t7 : Int) (t9 : Int) (h0 : (List Int)) (h1 : (List (List Int))) (f : Nat) : Option (denL [(.slice (.slice (.int .i64)))]) := iter cx117 S99 [(.slice (.slice (.int .i64)))] 6000 f 1 K99_1 (((t0, (t1, (t5, ((), (t7, ((), (t9, ()))))))), ()), (h0, (h1, ())))
theorem U99_1 (t0 : (List Int)) (t1 : Int) (t5 : (List (List Int))) (t7 : Int) (t9 : Int) (h0 : (List Int)) (h1 : (List (List Int))) {y : denL [(.slice (.slice (.int .i64)))]} (h : Ev fun k => seg cx117 S99 [(.slice (.slice (.int .i64)))] 6000 some (iter cx117 S99 [(.slice (.slice (.int .i64)))] 6000 k) 1 K99_1 (((t0, (t1, (t5, ((), (t7, ((), (t9, ()))))))), ()), (h0, (h1, ()))) = some y) : Ev fun k => T99_1 t0 t1 t5 t7 t9 h0 h1 k = some y := iter_ev h
noncomputable abbrev T31_0 (t1 : Int) (t7 : (List Int)) (t8 : Int) (h0 : Bk) (f : Nat) : Option (denL [(.slice (.int .i64)), (.int .i64)]) := iter cx99 S31 [(.slice (.int .i64)), (.int .i64)] 6000 f 0 K31_0 (((t1, ((), (t7, (t8, ())))), ()), (h0, ()))
theorem U31_0 (t1 : Int) (t7 : (List Int)) (t8 : Int) (h0 : Bk) {y : denL [(.slice (.int .i64)), (.int .i64)]} (h : Ev fun k => seg cx99 S31 [(.slice (.int .i64)), (.int .i64)] 6000 some (iter cx99 S31 [(.slice (.int .i64)), (.int .i64)] 6000 k) 0 K31_0 (((t1, ((), (t7, (t8, ())))), ()), (h0, ())) = some y) : Ev fun k => T31_0 t1 t7 t8 h0 k = some y := iter_ev h
noncomputable abbrev T31_1 (t1 : Int) (t7 : (List Int)) (t8 : Int) (t9 : (List (List Int))) (t10 : Int) (h0 : Bk) (f : Nat) : Option (denL [(.slice (.int .i64)), (.int .i64)]) := iter cx99 S31 [(.slice (.int .i64)), (.int .i64)] 6000 f 1 K31_1 (((t1, ((), (t7, (t8, (t9, (t10, ())))))), ()), (h0, ()))
theorem U31_1 (t1 : Int) (t7 : (List Int)) (t8 : Int) (t9 : (List (List Int))) (t10 : Int) (h0 : Bk) {y : denL [(.slice (.int .i64)), (.int .i64)]} (h : Ev fun k => seg cx99 S31 [(.slice (.int .i64)), (.int .i64)] 6000 some (iter cx99 S31 [(.slice (.int .i64)), (.int .i64)] 6000 k) 1 K31_1 (((t1, ((), (t7, (t8, (t9, (t10, ())))))), ()), (h0, ())) = some y) : Ev fun k => T31_1 t1 t7 t8 t9 t10 h0 k = some y := iter_ev h
noncomputable abbrev T33_0 (t1 : Int) (t7 : (List Int)) (t9 : Int) (h0 : Bk) (h1 : (List Int)) (f : Nat) : Option (denL [(.slice (.int .i64)), (.int .i64)]) := iter cx31 S33 [(.slice (.int .i64)), (.int .i64)] 6000 f 0 K33_0 (((t1, ((), (t7, ((), (t9, ()))))), ()), (h0, (h1, ())))
theorem U33_0 (t1 : Int) (t7 : (List Int)) (t9 : Int) (h0 : Bk) (h1 : (List Int)) {y : denL [(.slice (.int .i64)), (.int .i64)]} (h : Ev fun k => seg cx31 S33 [(.slice (.int .i64)), (.int .i64)] 6000 some (iter cx31 S33 [(.slice (.int .i64)), (.int .i64)] 6000 k) 0 K33_0 (((t1, ((), (t7, ((), (t9, ()))))), ()), (h0, (h1, ()))) = some y) : Ev fun k => T33_0 t1 t7 t9 h0 h1 k = some y := iter_ev h
noncomputable abbrev T35_0 (t1 : Int) (t7 : (List Int)) (t8 : Int) (h0 : Bk) (f : Nat) : Option (denL [(.slice (.int .i64)), (.int .i64)]) := iter cx33 S35 [(.slice (.int .i64)), (.int .i64)] 6000 f 0 K35_0 (((t1, ((), (t7, (t8, ())))), ()), (h0, ()))
theorem U35_0 (t1 : Int) (t7 : (List Int)) (t8 : Int) (h0 : Bk) {y : denL [(.slice (.int .i64)), (.int .i64)]} (h : Ev fun k => seg cx33 S35 [(.slice (.int .i64)), (.int .i64)] 6000 some (iter cx33 S35 [(.slice (.int .i64)), (.int .i64)] 6000 k) 0 K35_0 (((t1, ((), (t7, (t8, ())))), ()), (h0, ())) = some y) : Ev fun k => T35_0 t1 t7 t8 h0 k = some y := iter_ev h
noncomputable abbrev T35_1 (t1 : Int) (t7 : (List Int)) (t8 : Int) (t9 : (List (List Int))) (t10 : Int) (h0 : Bk) (f : Nat) : Option (denL [(.slice (.int .i64)), (.int .i64)]) := iter cx33 S35 [(.slice (.int .i64)), (.int .i64)] 6000 f 1 K35_1 (((t1, ((), (t7, (t8, (t9, (t10, ())))))), ()), (h0, ()))
theorem U35_1 (t1 : Int) (t7 : (List Int)) (t8 : Int) (t9 : (List (List Int))) (t10 : Int) (h0 : Bk) {y : denL [(.slice (.int .i64)), (.int .i64)]} (h : Ev fun k => seg cx33 S35 [(.slice (.int .i64)), (.int .i64)] 6000 some (iter cx33 S35 [(.slice (.int .i64)), (.int .i64)] 6000 k) 1 K35_1 (((t1, ((), (t7, (t8, (t9, (t10, ())))))), ()), (h0, ())) = some y) : Ev fun k => T35_1 t1 t7 t8 t9 t10 h0 k = some y := iter_ev h
noncomputable abbrev T37_0 (t7 : (List Int)) (t8 : Int) (h0 : Bk) (f : Nat) : Option (denL [(.slice (.int .i64)), (.int .i64)]) := iter cx103 S37 [(.slice (.int .i64)), (.int .i64)] 6000 f 0 K37_0 ((((), (t7, (t8, ()))), ()), (h0, ()))
theorem U37_0 (t7 : (List Int)) (t8 : Int) (h0 : Bk) {y : denL [(.slice (.int .i64)), (.int .i64)]} (h : Ev fun k => seg cx103 S37 [(.slice (.int .i64)), (.int .i64)] 6000 some (iter cx103 S37 [(.slice (.int .i64)), (.int .i64)] 6000 k) 0 K37_0 ((((), (t7, (t8, ()))), ()), (h0, ())) = some y) : Ev fun k => T37_0 t7 t8 h0 k = some y := iter_ev h
noncomputable abbrev T37_1 (t7 : (List Int)) (t8 : Int) (t9 : (List (List Int))) (t10 : Int) (h0 : Bk) (f : Nat) : Option (denL [(.slice (.int .i64)), (.int .i64)]) := iter cx103 S37 [(.slice (.int .i64)), (.int .i64)] 6000 f 1 K37_1 ((((), (t7, (t8, (t9, (t10, ()))))), ()), (h0, ()))
theorem U37_1 (t7 : (List Int)) (t8 : Int) (t9 : (List (List Int))) (t10 : Int) (h0 : Bk) {y : denL [(.slice (.int .i64)), (.int .i64)]} (h : Ev fun k => seg cx103 S37 [(.slice (.int .i64)), (.int .i64)] 6000 some (iter cx103 S37 [(.slice (.int .i64)), (.int .i64)] 6000 k) 1 K37_1 ((((), (t7, (t8, (t9, (t10, ()))))), ()), (h0, ())) = some y) : Ev fun k => T37_1 t7 t8 t9 t10 h0 k = some y := iter_ev h
end Go.Proofs.Ytallblpnlefpeaa
/- Helpers of the reference: in, bit, the same lists, has, choices. Conditions: as each lemma states. (Texts of another chapter, turned to this one.) -/
namespace Go.Proofs.Ytallblpnlefpeaa
open Go Go.Gh Go.Proofs Go.Few

theorem L51 (n lo hi : Int) : F51 ((n, lo, hi, ()) : Int × Int × Int × Unit) = some (decide (lo ≤ n) && decide (n ≤ hi), ()) := by
  refine ghost_eq (Ev.eq (fun _ => E51 _ _ _ _) (Ev.all fun _ => ?_))
  cases decide (lo ≤ n) <;> rfl
/-- 'Bit'. -/
theorem L40 (b : Nat) (hb : b < 1000000000000) (i : Nat) (hi : i < 1000000000000) : F40 (((b : Int), (i : Int), ()) : Int × Int × Unit) = some (b.testBit i, ()) := by
  refine ghost_eq (Ev.eq (fun _ => E40 _ _ _) ?_)
  have key : ∀ (i b : Nat), b < 1000000000000 → i < 1000000000000 → Ev fun k => iter cx51 S40 [.bool] 6000 k 0 K40_0 ((((b : Int), ((i : Int), ())), ()), ()) = some (b.testBit i, ()) := by
    intro i
    induction i with
    | zero =>
      intro b hb _
      refine iter_ev (Ev.eq (fun _ => Q40_0 _ _ _) ?_)
      rw [dec_f (by omega)]
      have : (Int.tmod (b : Int) 2 == 1) = b.testBit 0 := by
        rw [Int.tmod_eq_emod_of_nonneg (by omega), Nat.testBit_zero, Bool.eq_iff_iff, beq_iff_eq, decide_eq_true_eq]
        omega
      rw [this]
      exact Ev.all fun _ => by first | rfl | trivial
    | succ i ih =>
      intro b hb hi
      refine iter_ev (Ev.eq (fun _ => Q40_0 _ _ _) ?_)
      have e1 : IntKind.wrap IntKind.i64 (Int.tdiv (b : Int) 2) = ((b / 2 : Nat) : Int) := by
        rw [show Int.tdiv (b : Int) 2 = ((b / 2 : Nat) : Int) by simp, wrap_id (by omega) (by omega)]
      have e2 : IntKind.wrap IntKind.i64 (((i + 1 : Nat) : Int) - 1) = (i : Int) := by rw [wrap_id (by omega) (by omega)]; omega
      rw [dec_t (show ((i + 1 : Nat) : Int) > 0 by omega), e1, e2, Nat.testBit_succ]
      exact ih (b / 2) (by omega) (by omega)
  exact key i b hb hi
theorem L27 (l p : List Int) (hl : l.length < 1000000) : F27 ((l, p, ()) : List Int × List Int × Unit) = some (decide (l = p), ()) := by
  refine ghost_eq (Ev.eq (fun _ => E27 _ _ _) ?_)
  by_cases hlen : l.length = p.length
  · have e0 : ((l.length : Int) == (p.length : Int)) = true := beq_iff_eq.2 (by rw [hlen])
    rw [e0]
    have key : ∀ (e i : Nat), i + e = l.length → Ev fun f => iter cx40 S27 [.bool] 6000 f 0 K27_0 (((l, (p, (true, ((i : Int), ())))), ()), ()) = some (decide (l.drop i = p.drop i), ()) := by
      intro e
      induction e with
      | zero =>
        intro i hi
        refine iter_ev (Ev.eq (fun _ => Q27_0 _ _ _ _ _) ?_)
        rw [List.drop_eq_nil_of_le (by omega), List.drop_eq_nil_of_le (by omega)]
        simp only [cond_true, dec_f (show ¬ ((i : Int) < (l.length : Int)) by omega), cond_false]
        exact Ev.all fun _ => by simp
      | succ e ih =>
        intro i hi
        refine iter_ev (Ev.eq (fun _ => Q27_0 _ _ _ _ _) ?_)
        have h1 : i < l.length := by omega
        have h2 : i < p.length := by omega
        have wi : IntKind.wrap IntKind.i64 ((i : Int) + 1) = ((i + 1 : Nat) : Int) := by rw [wrap_id (by omega) (by omega)]; omega
        have hg : l.getD i 0 = l[i] := by simp [List.getD_eq_getElem?_getD, h1]
        have hg' : p.getD i 0 = p[i] := by simp [List.getD_eq_getElem?_getD, h2]
        simp only [cond_true, dec_t (show (i : Int) < (l.length : Int) by omega), dec_t (show (0 : Int) ≤ (i : Int) by omega), dec_t (show (i : Int) < (p.length : Int) by omega), Bool.and_self, Int.toNat_natCast, wi, hg, hg']
        rw [List.drop_eq_getElem_cons h1, List.drop_eq_getElem_cons h2]
        by_cases he : l[i] = p[i]
        · have : (l[i] == p[i]) = true := by simpa using he
          rw [this]
          have := ih (i + 1) (by omega)
          have e3 : decide (l[i] :: l.drop (i + 1) = p[i] :: p.drop (i + 1)) = decide (l.drop (i + 1) = p.drop (i + 1)) := decide_eq_decide.2 ⟨fun h => (List.cons.inj h).2, fun h => by rw [he, h]⟩
          rw [e3]
          exact this
        · have : (l[i] == p[i]) = false := by simpa using he
          rw [this]
          refine iter_ev (Ev.eq (fun _ => Q27_0 _ _ _ _ _) ?_)
          have e3 : decide (l[i] :: l.drop (i + 1) = p[i] :: p.drop (i + 1)) = false := decide_eq_false fun h => he (List.cons.inj h).1
          rw [e3]
          exact Ev.all fun _ => by first | rfl | trivial
    have := key l.length 0 (by omega)
    simpa using this
  · have e0 : ((l.length : Int) == (p.length : Int)) = false := by simp; omega
    rw [e0]
    refine iter_ev (Ev.eq (fun _ => Q27_0 _ _ _ _ _) ?_)
    have : ¬ l = p := fun e => hlen (by rw [e])
    exact Ev.all fun _ => by simp [this]
/-- 'Has'. -/
theorem L45 (l : List Int) (hl : l.length < 1000000000000) (n : Int) : F45 ((l, n, ()) : List Int × Int × Unit) = some (decide (n ∈ l), ()) := by
  refine ghost_eq (Ev.eq (fun _ => E45 _ _ _) ?_)
  have key : ∀ (e i : Nat), i + e = l.length → Ev fun k => iter cx27 S45 [.bool] 6000 k 0 K45_0 (((l, (n, ((i : Int), ()))), ()), ()) = some (decide (n ∈ l.drop i), ()) := by
    intro e
    induction e with
    | zero =>
      intro i hi
      refine iter_ev (Ev.eq (fun _ => Q45_0 _ _ _ _) ?_)
      rw [dec_f (by omega), List.drop_eq_nil_of_le (by omega)]
      exact Ev.all fun _ => by simp
    | succ e ih =>
      intro i hi
      refine iter_ev (Ev.eq (fun _ => Q45_0 _ _ _ _) ?_)
      have hlt : i < l.length := by omega
      rw [dec_t (show (i : Int) < (l.length : Int) by omega), dec_t (show (0 : Int) ≤ (i : Int) by omega), Int.toNat_natCast, getD_lt hlt, wrap_succ (n := i) (by omega), List.drop_eq_getElem_cons hlt]
      simp only [Bool.and_self, cond_true]
      by_cases h : l[i] = n
      · have : (l[i] == n) = true := by simpa using h
        rw [this, dec_t (show n ∈ l[i] :: l.drop (i + 1) by rw [h]; exact List.mem_cons_self ..)]
        exact Ev.all fun _ => by first | rfl | trivial
      · have : (l[i] == n) = false := by simpa using h
        rw [this]
        have e3 : decide (n ∈ l[i] :: l.drop (i + 1)) = decide (n ∈ l.drop (i + 1)) := decide_eq_decide.2 ⟨fun hm => by
          rcases List.mem_cons.1 hm with e | e
          · exact absurd e.symm h
          · exact e, fun hm => List.mem_cons_of_mem _ hm⟩
        rw [e3]
        exact ih (i + 1) (by omega)
  have := key l.length 0 (by omega)
  rw [List.drop_zero] at this
  exact this
noncomputable abbrev V117_0 (b m : Nat) (out : List (List Int)) (i : Nat) (f : Nat) : Option (denL [(.slice (.slice (.int .i64)))]) := iter cx48 S117 [(.slice (.slice (.int .i64)))] 6000 f 0 K117_0 ((((b : Int), ((m : Int), (out, ((i : Int), ())))), ()), ())
noncomputable abbrev V117_1 (b m : Nat) (out : List (List Int)) (i k : Nat) (acc : List (List Int)) (f : Nat) : Option (denL [(.slice (.slice (.int .i64)))]) := iter cx48 S117 [(.slice (.slice (.int .i64)))] 6000 f 1 K117_1 ((((b : Int), ((m : Int), (out, ((i : Int), ((), ((k : Int), ())))))), ()), (acc, ()))
noncomputable abbrev V117_2 (b m : Nat) (out : List (List Int)) (i k : Nat) (n : Int) (acc : List (List Int)) (f : Nat) : Option (denL [(.slice (.slice (.int .i64)))]) := iter cx48 S117 [(.slice (.slice (.int .i64)))] 6000 f 2 K117_2 ((((b : Int), ((m : Int), (out, ((i : Int), ((), ((k : Int), (n, ()))))))), ()), (acc, ()))

theorem choose2 (b m : Nat) (hb : b ≤ 8) (out : List (List Int)) (ho : out.length ≤ 16777216) (i k : Nat) (hk : k < out.length) (hl : (out.getD k []).length ≤ 8) (y : denL [(.slice (.slice (.int .i64)))]) : ∀ (e : Nat) (n : Int), n + e = b → 0 ≤ n → ∀ acc : List (List Int), (acc ++ (upto n b).map fun n => out.getD k [] ++ [n]).length ≤ 16777216 →
    (Ev fun f => V117_1 b m out i (k + 1) (acc ++ (upto n b).map fun n => out.getD k [] ++ [n]) f = some y) → Ev fun f => V117_2 b m out i k n acc f = some y := by
  intro e
  induction e with
  | zero =>
    intro n hn h0 acc hc h
    refine iter_ev (Ev.eq (fun _ => Q117_2 _ _ _ _ _ _ _ _) ?_)
    rw [upto_nil (by omega), List.map_nil, List.append_nil] at h
    rw [dec_f (by omega), wrap_succ (n := k) (by omega)]
    exact h
  | succ e ih =>
    intro n hn h0 acc hc h
    refine iter_ev (Ev.eq (fun _ => Q117_2 _ _ _ _ _ _ _ _) ?_)
    rw [upto_cons (by omega), List.map_cons] at h hc
    have hc' := hc
    rw [List.length_append, List.length_cons] at hc'
    rw [wrap_id (x := n + 1) (by omega) (by omega), one_set, one_set, Int.toNat_natCast, dec_t (show n < (b : Int) by omega), dec_t (show (0 : Int) ≤ (k : Int) by omega), dec_t (show (k : Int) < (out.length : Int) by omega), dec_t (show (out.getD k []).length ≤ 2147483648 by omega), dec_t (show (out.getD k []).length + [n].length ≤ 2147483648 by simp only [List.length_cons, List.length_nil]; omega), dec_t (show acc.length + [out.getD k [] ++ [n]].length ≤ 2147483648 by simp only [List.length_cons, List.length_nil]; omega)]
    have e1 : ∀ r : List (List Int), acc ++ (out.getD k [] ++ [n]) :: r = (acc ++ [out.getD k [] ++ [n]]) ++ r := fun r => by simp
    rw [e1] at h hc
    exact ih (n + 1) (by omega) (by omega) _ hc h

theorem choose1 (b m : Nat) (hb : b ≤ 8) (i : Nat) (hi8 : i ≤ 7) (y : denL [(.slice (.slice (.int .i64)))]) (h : Ev fun f => V117_0 b m (chooseL b (i + 1)) (i + 1) f = some y) : ∀ (e k : Nat), k + e = (chooseL b i).length → ∀ acc : List (List Int), acc ++ ((chooseL b i).drop k).flatMap (fun o => (upto (Few.firstOf i o) b).map fun n => o ++ [n]) = chooseL b (i + 1) →
    Ev fun f => V117_1 b m (chooseL b i) i k acc f = some y := by
  have hcap := chooseL_cap hb (show i ≤ 8 by omega)
  have hcap' := chooseL_cap hb (show i + 1 ≤ 8 by omega)
  intro e
  induction e with
  | zero =>
    intro k hk acc ha
    refine iter_ev (Ev.eq (fun _ => Q117_1 _ _ _ _ _ _ _) ?_)
    rw [List.drop_eq_nil_of_le (by omega), List.flatMap_nil, List.append_nil] at ha
    rw [dec_f (by omega), wrap_succ (n := i) (by omega), ha]
    exact h
  | succ e ih =>
    intro k hk acc ha
    refine iter_ev (Ev.eq (fun _ => Q117_1 _ _ _ _ _ _ _) ?_)
    have hlt : k < (chooseL b i).length := by omega
    have hr := mem_chooseL.1 (List.getElem_mem hlt)
    have hg : (chooseL b i).getD k [] = (chooseL b i)[k] := getD_lt hlt
    have hf0 := firstOf_ge hr
    have hf1 := firstOf_le (by omega) hr
    rw [List.drop_eq_getElem_cons hlt, List.flatMap_cons, ← List.append_assoc] at ha
    have hle : (acc ++ (upto (Few.firstOf i (chooseL b i)[k]) b).map fun n => (chooseL b i)[k] ++ [n]).length ≤ 16777216 := by
      have := congrArg List.length ha
      rw [List.length_append] at this
      omega
    have nxt := choose2 b m hb (chooseL b i) hcap i k hlt (by rw [hg, hr.len]; omega) y ((b : Int) - Few.firstOf i (chooseL b i)[k]).toNat (Few.firstOf i (chooseL b i)[k]) (by omega) hf0 acc (by rw [hg]; exact hle) (by rw [hg]; exact ih (k + 1) (by omega) _ ha)
    rw [dec_t (show (k : Int) < ((chooseL b i).length : Int) by omega)]
    simp only [cond_true]
    cases i with
    | zero =>
      rw [dec_f (show ¬ (((0 : Nat) : Int) > 0) by omega)]
      exact nxt
    | succ i =>
      have w1 : IntKind.wrap IntKind.i64 (((i + 1 : Nat) : Int) - 1) = (i : Int) := by rw [wrap_id (by omega) (by omega)]; omega
      have hlen := hr.len
      have hi := hr.in_ _ (List.getElem_mem (show i < ((chooseL b (i + 1))[k]).length by omega))
      have hg2 : ((chooseL b (i + 1))[k]).getD i 0 = ((chooseL b (i + 1))[k])[i]'(by omega) := getD_lt (by omega)
      have w2 : IntKind.wrap IntKind.i64 (((chooseL b (i + 1))[k]).getD i 0 + 1) = Few.firstOf (i + 1) (chooseL b (i + 1))[k] := by
        rw [hg2, wrap_id (by omega) (by omega), Few.firstOf, if_pos (by omega), Nat.add_sub_cancel, hg2]
      rw [dec_t (show (((i + 1 : Nat) : Int) > 0) by omega), w1, Int.toNat_natCast, Int.toNat_natCast, hg, w2, dec_t (show (0 : Int) ≤ (k : Int) by omega), dec_t (show (0 : Int) ≤ (i : Int) by omega), dec_t (show (i : Int) < (((chooseL b (i + 1))[k]).length : Int) by omega)]
      exact nxt

/-- 'Choices' of the reference. -/
theorem L117 (b m : Nat) (hb : b ≤ 8) (hm : m ≤ 8) : F117 (((b : Int), (m : Int), ()) : Int × Int × Unit) = some (chooseL b m, ()) := by
  refine ghost_eq (Ev.eq (fun _ => E117 _ _ _) ?_)
  have key : ∀ (e i : Nat), i + e = m → Ev fun f => V117_0 b m (chooseL b i) i f = some (chooseL b m, ()) := by
    intro e
    induction e with
    | zero =>
      intro i hi
      obtain rfl : i = m := by omega
      refine iter_ev (Ev.eq (fun _ => Q117_0 _ _ _ _ _) ?_)
      rw [dec_f (by omega)]
      exact Ev.all fun _ => by first | rfl | trivial
    | succ e ih =>
      intro i hi
      refine iter_ev (Ev.eq (fun _ => Q117_0 _ _ _ _ _) ?_)
      rw [dec_t (show (i : Int) < (m : Int) by omega)]
      exact choose1 b m hb i (by omega) _ (ih (i + 1) (by omega)) (chooseL b i).length 0 (by omega) [] (by rw [List.drop_zero, List.nil_append]; rfl)
  exact key m 0 (by omega)
end Go.Proofs.Ytallblpnlefpeaa
/- The reference: errors of a book, what a way makes. Conditions: as each lemma states. -/
namespace Go.Proofs.Ytallblpnlefpeaa
open Go Go.Gh Go.Proofs Go.Few

theorem L110 (m : Nat) (hm : m ≤ 20) : F110 (((m : Int), ()) : Int × Unit) = some (((2 ^ m - 1 : Nat) : Int), ()) := by
  refine ghost_eq (Ev.eq (fun _ => E110 _ _) ?_)
  have key : ∀ (c i : Nat), i + c = m → Ev fun k => T110_0 m ((2 ^ i - 1 : Nat) : Int) i k = some (((2 ^ m - 1 : Nat) : Int), ()) := by
    intro c
    induction c with
    | zero =>
      intro i hi
      obtain rfl : i = m := by omega
      refine U110_0 _ _ _ (Ev.eq (fun _ => Q110_0 _ _ _ _) ?_)
      rw [dec_f (by omega)]
      exact Ev.all fun _ => by first | rfl | trivial
    | succ c ih =>
      intro i hi
      refine U110_0 _ _ _ (Ev.eq (fun _ => Q110_0 _ _ _ _) ?_)
      have h := ih (i + 1) (by omega)
      have h1 : 1 ≤ 2 ^ i := Nat.one_le_two_pow
      have h2 : 2 ^ i ≤ 2 ^ 20 := Nat.pow_le_pow_right (by decide) (by omega)
      have e1 : IntKind.wrap IntKind.i64 (IntKind.wrap IntKind.i64 (2 * ((2 ^ i - 1 : Nat) : Int)) + 1) = ((2 ^ (i + 1) - 1 : Nat) : Int) := by
        rw [wrap_id (x := 2 * ((2 ^ i - 1 : Nat) : Int)) (by omega) (by omega), wrap_id (by omega) (by omega), Nat.pow_succ]
        omega
      rw [dec_t (show (i : Int) < (m : Int) by omega), wrap_succ (n := i) (by omega), e1]
      exact h
  exact key m 0 (by omega)
theorem L83 (b : Bk) (h8 : b.1.length ≤ 8) (i : Nat) (hi : i ≤ 8) (w : Wy) : F83 ((b, (i : Int), w, ()) : Bk × Int × Wy × Unit) = some (wayE b i w, ()) := by
  refine ghost_eq (Ev.eq (fun _ => E83 _ _ _ _) ?_)
  rw [L51, L110 _ (by omega), L110 _ (by omega)]
  simp only [Option.bind_some]
  rw [L51]
  simp only [Option.bind_some]
  rw [L51]
  simp only [Option.bind_some]
  unfold wayE
  by_cases c1 : w.1 < 0 ∨ 2 < w.1
  · rw [if_pos c1, show (decide (0 ≤ w.1) && decide (w.1 ≤ 2)) = false by rw [Bool.and_eq_false_iff, decide_eq_false_iff_not, decide_eq_false_iff_not]; omega]
    exact Ev.all fun _ => by first | rfl | trivial
  · rw [if_neg c1, dec_t (show 0 ≤ w.1 by omega), dec_t (show w.1 ≤ 2 by omega)]
    simp only [Bool.and_self, Bool.not_true, cond_false]
    by_cases c2 : w.2.1 < 0 ∨ ((2 ^ b.1.length - 1 : Nat) : Int) < w.2.1
    · rw [if_pos (.inl c2), show (decide (0 ≤ w.2.1) && decide (w.2.1 ≤ ((2 ^ b.1.length - 1 : Nat) : Int))) = false by rw [Bool.and_eq_false_iff, decide_eq_false_iff_not, decide_eq_false_iff_not]; omega]
      exact Ev.all fun _ => by first | rfl | trivial
    · rw [dec_t (show 0 ≤ w.2.1 by omega), dec_t (show w.2.1 ≤ ((2 ^ b.1.length - 1 : Nat) : Int) by omega)]
      simp only [Bool.and_self, Bool.not_true, cond_false]
      by_cases c3 : w.2.2.1 < 0 ∨ ((2 ^ i - 1 : Nat) : Int) < w.2.2.1
      · rw [if_pos (.inr c3), show (decide (0 ≤ w.2.2.1) && decide (w.2.2.1 ≤ ((2 ^ i - 1 : Nat) : Int))) = false by rw [Bool.and_eq_false_iff, decide_eq_false_iff_not, decide_eq_false_iff_not]; omega]
        exact Ev.all fun _ => by first | rfl | trivial
      · rw [if_neg (fun h => h.elim c2 c3), dec_t (show 0 ≤ w.2.2.1 by omega), dec_t (show w.2.2.1 ≤ ((2 ^ i - 1 : Nat) : Int) by omega)]
        simp only [Bool.and_self, Bool.not_true, cond_false]
        by_cases z1 : w.2.1 = 0
        · by_cases z2 : w.2.2.1 = 0
          · rw [if_pos ⟨z1, z2⟩, beq_iff_eq.2 z1, beq_iff_eq.2 z2]
            exact Ev.all fun _ => by first | rfl | trivial
          · rw [if_neg (fun h => z2 h.2), beq_iff_eq.2 z1, beq_eq_false_iff_ne.2 z2]
            exact Ev.all fun _ => by first | rfl | trivial
        · rw [if_neg (fun h => z1 h.1), beq_eq_false_iff_ne.2 z1]
          exact Ev.all fun _ => by first | rfl | trivial
/-- 'Check' of the reference. -/
theorem L19 (b : Bk) : F19 ((b, ()) : Bk × Unit) = some (chkP b) := by
  refine ghost_eq (Ev.eq (fun _ => E19 _ _) ?_)
  unfold chkP
  by_cases h8 : 8 < b.1.length
  · rw [if_pos h8, dec_t (by omega)]
    exact Ev.all fun _ => by first | rfl | trivial
  · rw [if_neg h8, dec_f (by omega)]
    simp only [cond_false]
    have ways : ∀ (y : denL [(.int .i64), (.int .i64), (.int .i64)]) (n : Nat), n < 6 → n < b.2.1.length → (b.2.1.getD n []).length ≤ 3 → (numE b n (b.2.1.getD n []) = none → Ev fun k => T19_1 ((n + 1 : Nat) : Int) b k = some y) → (∀ e, numE b n (b.2.1.getD n []) = some e → y = (2, (n : Int), e, ())) →
        ∀ (c j : Nat), j + c = (b.2.1.getD n []).length → numE b n ((b.2.1.getD n []).drop j) = numE b n (b.2.1.getD n []) → Ev fun k => T19_2 n j b k = some y := by
      intro y n hn hnl hwl hnone hsome c
      induction c with
      | zero =>
        intro j hj he
        refine U19_2 _ _ _ (Ev.eq (fun _ => Q19_2 _ _ _ _) ?_)
        rw [List.drop_eq_nil_of_le (by omega)] at he
        rw [Int.toNat_natCast, dec_t (show (0 : Int) ≤ (n : Int) by omega), dec_t (show (n : Int) < (b.2.1.length : Int) by omega), dec_f (show ¬ ((j : Int) < ((b.2.1.getD n []).length : Int)) by omega), wrap_succ (n := n) (by omega)]
        exact hnone he.symm
      | succ c ih =>
        intro j hj he
        refine U19_2 _ _ _ (Ev.eq (fun _ => Q19_2 _ _ _ _) ?_)
        have hlt : j < (b.2.1.getD n []).length := by omega
        rw [Int.toNat_natCast, Int.toNat_natCast, dec_t (show (0 : Int) ≤ (n : Int) by omega), dec_t (show (n : Int) < (b.2.1.length : Int) by omega), dec_t (show (j : Int) < ((b.2.1.getD n []).length : Int) by omega), dec_t (show (0 : Int) ≤ (j : Int) by omega), wrap_succ (n := j) (by omega), L83 b (by omega) n (by omega), getD_lt hlt]
        simp only [Bool.and_self, cond_true, Option.bind_some]
        rw [List.drop_eq_getElem_cons hlt, numE] at he
        by_cases h0 : wayE b n (b.2.1.getD n [])[j] = 0
        · rw [if_pos h0] at he
          rw [h0]
          exact ih (j + 1) (by omega) he
        · rw [if_neg h0] at he
          rw [bne_iff_ne.2 h0, hsome _ he.symm]
          exact Ev.all fun _ => by first | rfl | trivial
    have nums : ∀ (y : denL [(.int .i64), (.int .i64), (.int .i64)]), b.2.1.length ≤ 6 → y = endN (numsE b b.2.1 0) → ∀ (c n : Nat), n + c = b.2.1.length → numsE b (b.2.1.drop n) n = numsE b b.2.1 0 → Ev fun k => T19_1 n b k = some y := by
      intro y h6 hy c
      induction c with
      | zero =>
        intro n hn he
        refine U19_1 _ _ (Ev.eq (fun _ => Q19_1 _ _ _) ?_)
        rw [List.drop_eq_nil_of_le (by omega)] at he
        rw [dec_f (show ¬ ((n : Int) < (b.2.1.length : Int)) by omega), hy, ← he]
        exact Ev.all fun _ => by first | rfl | trivial
      | succ c ih =>
        intro n hn he
        refine U19_1 _ _ (Ev.eq (fun _ => Q19_1 _ _ _) ?_)
        have hlt : n < b.2.1.length := by omega
        have hih := ih (n + 1) (by omega)
        rw [dec_t (show (n : Int) < (b.2.1.length : Int) by omega), dec_t (show (0 : Int) ≤ (n : Int) by omega), Int.toNat_natCast, L51]
        simp only [Bool.and_self, cond_true, Option.bind_some]
        rw [List.drop_eq_getElem_cons hlt, numsE, ← getD_lt (z := []) hlt] at he
        by_cases hm : 1 ≤ (b.2.1.getD n []).length ∧ (b.2.1.getD n []).length ≤ 3
        · rw [dec_t (show (1 : Int) ≤ ((b.2.1.getD n []).length : Int) by omega), dec_t (show ((b.2.1.getD n []).length : Int) ≤ 3 by omega)]
          rw [if_pos hm] at he
          refine ways y n (by omega) hlt hm.2 (fun hnone => ?_) (fun e hsome => ?_) (b.2.1.getD n []).length 0 (by omega) (by rw [List.drop_zero])
          · rw [hnone] at he
            exact hih he
          · rw [hsome] at he
            rw [hy, ← he]
            rfl
        · rw [show (decide ((1 : Int) ≤ ((b.2.1.getD n []).length : Int)) && decide (((b.2.1.getD n []).length : Int) ≤ 3)) = false by rw [Bool.and_eq_false_iff, decide_eq_false_iff_not, decide_eq_false_iff_not]; omega, hy, ← he, if_neg hm]
          exact Ev.all fun _ => by first | rfl | trivial
    have rows : ∀ (c i : Nat), i + c = b.1.length → rowsE (b.1.drop i) i = rowsE b.1 0 → Ev fun k => T19_0 i b k = some (endR b (rowsE b.1 0)) := by
      intro c
      induction c with
      | zero =>
        intro i hi he
        refine U19_0 _ _ (Ev.eq (fun _ => Q19_0 _ _ _) ?_)
        rw [List.drop_eq_nil_of_le (by omega)] at he
        rw [dec_f (show ¬ ((i : Int) < (b.1.length : Int)) by omega), ← he]
        simp only [rowsE, endR, cond_false]
        by_cases h6 : 6 < b.2.1.length
        · rw [if_pos h6, dec_t (by omega)]
          exact Ev.all fun _ => by first | rfl | trivial
        · rw [if_neg h6, dec_f (by omega)]
          exact nums _ (by omega) rfl b.2.1.length 0 (by omega) (by rw [List.drop_zero])
      | succ c ih =>
        intro i hi he
        refine U19_0 _ _ (Ev.eq (fun _ => Q19_0 _ _ _) ?_)
        have hlt : i < b.1.length := by omega
        rw [List.drop_eq_getElem_cons hlt, rowsE] at he
        rw [dec_t (show (i : Int) < (b.1.length : Int) by omega), dec_t (show (0 : Int) ≤ (i : Int) by omega), wrap_succ (n := i) (by omega), Int.toNat_natCast, getD_lt hlt, L51]
        simp only [Bool.and_self, cond_true, Option.bind_some]
        by_cases hr : 0 ≤ b.1[i].1 ∧ b.1[i].1 ≤ 99
        · rw [if_pos hr] at he
          rw [dec_t hr.1, dec_t hr.2]
          exact ih (i + 1) (by omega) he
        · rw [if_neg hr] at he
          rw [show (decide (0 ≤ b.1[i].1) && decide (b.1[i].1 ≤ 99)) = false by rw [Bool.and_eq_false_iff, decide_eq_false_iff_not, decide_eq_false_iff_not]; omega, ← he]
          exact Ev.all fun _ => by first | rfl | trivial
    exact rows b.1.length 0 (by omega) (by rw [List.drop_zero])

/-- 'made'. -/
theorem L105 (op : Int) (h0 : 0 ≤ op) (h2 : op ≤ 2) (v : Int) (l : List Int) (hv : 0 ≤ v ∧ v ≤ 1000000) (hl : ∀ x ∈ l, 0 ≤ x ∧ x ≤ 1000000) (hn : l.length ≤ 1000) : F105 ((op, v :: l, ()) : Int × List Int × Unit) = some (l.foldl (opP op) v, ()) := by
  refine ghost_eq (Ev.eq (fun _ => E105 _ _ _) ?_)
  rw [dec_t (show (0 : Int) < ((v :: l).length : Int) by simp only [List.length_cons]; omega)]
  have key : ∀ (c i : Nat) (a : Int), i + c = l.length → 0 ≤ a → a ≤ 1000000 * ((i : Int) + 1) → (l.drop i).foldl (opP op) a = l.foldl (opP op) v → Ev fun k => T105_0 op (v :: l) a ((i + 1 : Nat) : Int) k = some (l.foldl (opP op) v, ()) := by
    intro c
    induction c with
    | zero =>
      intro i a hi ha0 ha1 he
      refine U105_0 _ _ _ _ (Ev.eq (fun _ => Q105_0 _ _ _ _ _) ?_)
      rw [List.drop_eq_nil_of_le (by omega)] at he
      rw [dec_f (show ¬ (((i + 1 : Nat) : Int) < ((v :: l).length : Int)) by simp only [List.length_cons]; omega), ← he]
      exact Ev.all fun _ => by first | rfl | trivial
    | succ c ih =>
      intro i a hi ha0 ha1 he
      refine U105_0 _ _ _ _ (Ev.eq (fun _ => Q105_0 _ _ _ _ _) ?_)
      have hlt : i < l.length := by omega
      have hx := hl _ (List.getElem_mem hlt)
      rw [List.drop_eq_getElem_cons hlt, List.foldl_cons] at he
      have hg : (v :: l).getD (i + 1) 0 = l[i] := by rw [List.getD_cons_succ, getD_lt hlt]
      rw [dec_t (show ((i + 1 : Nat) : Int) < ((v :: l).length : Int) by simp only [List.length_cons]; omega), dec_t (show (0 : Int) ≤ ((i + 1 : Nat) : Int) by omega), Int.toNat_natCast, hg, wrap_succ (n := i + 1) (by omega), wrap_id (x := a + l[i]) (by omega) (by omega)]
      simp only [Bool.and_self, cond_true]
      have hop : op = 0 ∨ op = 1 ∨ op = 2 := by omega
      rcases hop with rfl | rfl | rfl
      · exact ih (i + 1) _ (by omega) (by omega) (by omega) he
      · have e : opP 1 a l[i] = if l[i] > a then l[i] else a := rfl
        rw [e] at he
        exact ih (i + 1) _ (by omega) (by split <;> omega) (by split <;> omega) he
      · have e : opP 2 a l[i] = if l[i] < a then l[i] else a := rfl
        rw [e] at he
        exact ih (i + 1) _ (by omega) (by split <;> omega) (by split <;> omega) he
  exact key l.length 0 v (by omega) hv.1 (by omega) (by rw [List.drop_zero])
end Go.Proofs.Ytallblpnlefpeaa
/- The reference: all numbers, Value, Clash. Conditions: as each lemma states. -/
namespace Go.Proofs.Ytallblpnlefpeaa
open Go Go.Gh Go.Proofs Go.Few

def bel (p : Nat → Bool) (i : Nat) : List Nat := (List.range i).filter p
theorem bel_succ (p : Nat → Bool) (i : Nat) : bel p (i + 1) = if p i = true then bel p i ++ [i] else bel p i := by
  unfold bel
  rw [List.range_succ, List.filter_append]
  cases h : p i <;> simp [h]
theorem bel_more (p : Nat → Bool) {k : Nat} (h : ∀ i, p i = true → i < k) : ∀ c, bel p (k + c) = bel p k
  | 0 => rfl
  | c + 1 => by
    rw [show k + (c + 1) = (k + c) + 1 by omega, bel_succ, if_neg (fun hp => by have := h _ hp; omega)]
    exact bel_more p h c
theorem bel_mem {p : Nat → Bool} {k i : Nat} : i ∈ bel p k ↔ i < k ∧ p i = true := by simp [bel]
theorem bel_len (p : Nat → Bool) (k : Nat) : (bel p k).length ≤ k := by
  unfold bel
  exact Nat.le_trans (List.length_filter_le _ _) (by simp)
theorem stand_bit (b : Bk) (i : Nat) : (rowsN b).testBit i = (decide (i < b.1.length) && !(b.1.getD i rw0).2.1) := by
  unfold rowsN standL
  rw [bits_nums]
def struckAny (b : Bk) (p : Nat → Bool) (i : Nat) : Bool := (bel p i).any fun j => (b.1.getD j rw0).2.1
def fellAny (l : List Fd) (p : Nat → Bool) (i : Nat) : Bool := (bel p i).any fun j => !(l.getD j fd0).1
def valsR (b : Bk) (p : Nat → Bool) (i : Nat) : List Int := (bel p i).map fun j => (b.1.getD j rw0).1
def valsN (l : List Fd) (p : Nat → Bool) (i : Nat) : List Int := (bel p i).map fun j => (l.getD j fd0).2.1
theorem any_congr' {α : Type} {p q : α → Bool} : ∀ {l : List α}, (∀ x ∈ l, p x = q x) → l.any p = l.any q
  | [], _ => rfl
  | x :: l, h => by rw [List.any_cons, List.any_cons, h x (List.mem_cons_self ..), any_congr' fun y hy => h y (List.mem_cons_of_mem _ hy)]
theorem makes_bel {b : Bk} (hv : VB b) {n : Nat} (hn : n ≤ 6) {w : Wy} (hw : VW b n w) (l : List Fd) :
    makesP b w (rowsN b) l = if struckAny b (fun i => w.2.1.toNat.testBit i) b.1.length = true then fd0 else if fellAny l (fun i => w.2.2.1.toNat.testBit i) n = true then fd0 else madeP w.1 (valsR b (fun i => w.2.1.toNat.testBit i) b.1.length ++ valsN l (fun i => w.2.2.1.toNat.testBit i) n) := by
  have h8 := hv.r8
  obtain ⟨m, hm1⟩ := Int.eq_ofNat_of_zero_le hw.r0
  obtain ⟨t, ht⟩ := Int.eq_ofNat_of_zero_le hw.n0
  have h1 := hw.r1
  have h2 := hw.n1
  rw [hm1] at h1
  rw [ht] at h2
  have h1 : m < 2 ^ b.1.length := by exact_mod_cast h1
  have h2 : t < 2 ^ n := by exact_mod_cast h2
  have e1 : bitL w.2.1 8 = bel (fun i => w.2.1.toNat.testBit i) b.1.length := by
    obtain ⟨c, hc⟩ := Nat.le.dest h8
    rw [← hc]
    exact bel_more _ (fun i hi => by rw [hm1, Int.toNat_natCast] at hi; exact bit_lt hi h1) c
  have e2 : bitL w.2.2.1 6 = bel (fun i => w.2.2.1.toNat.testBit i) n := by
    obtain ⟨c, hc⟩ := Nat.le.dest hn
    rw [← hc]
    exact bel_more _ (fun i hi => by rw [ht, Int.toNat_natCast] at hi; exact bit_lt hi h2) c
  unfold makesP struckAny fellAny valsR valsN
  rw [e1, e2, any_congr' (q := fun j => (b.1.getD j rw0).2.1) fun i hi => by
    rw [Int.toNat_natCast, stand_bit, dec_t (bel_mem.1 hi).1, Bool.true_and, Bool.not_not]]
theorem getR (b : Bk) (i : Nat) : b.1.getD i (0, false, ()) = b.1.getD i rw0 := rfl
theorem getF (l : List Fd) (i : Nat) : l.getD i (false, 0, ()) = l.getD i fd0 := rfl
/-- 'Makes'. -/
theorem L52 (b : Bk) (hv : VB b) {n : Nat} (hn : n ≤ 6) (w : Wy) (hw : VW b n w) (l : List Fd) (hln : l.length = n) (hl : ∀ i, i < 6 → 0 ≤ (l.getD i fd0).2.1 ∧ (l.getD i fd0).2.1 ≤ 1000000) :
    F52 ((b, w, l, ()) : Bk × Wy × List Fd × Unit) = some (makesP b w (rowsN b) l, ()) := by
  refine ghost_eq (Ev.eq (fun _ => E52 _ _ _ _) ?_)
  rw [makes_bel hv hn hw l]
  have h8 := hv.r8
  have hval := hv.at
  obtain ⟨m, hm1⟩ := Int.eq_ofNat_of_zero_le hw.r0
  obtain ⟨t, ht⟩ := Int.eq_ofNat_of_zero_le hw.n0
  have h1 := hw.r1
  have h2 := hw.n1
  have hsome := hw.some
  have o0 := hw.o0
  have o2 := hw.o2
  rw [hm1] at h1
  rw [ht] at h2
  rw [hm1, ht] at hsome
  have h1 : m < 2 ^ b.1.length := by exact_mod_cast h1
  have h2 : t < 2 ^ n := by exact_mod_cast h2
  have hm8 : m < 2 ^ 8 := Nat.lt_of_lt_of_le h1 (Nat.pow_le_pow_right (by decide) h8)
  have ht6 : t < 2 ^ 6 := Nat.lt_of_lt_of_le h2 (Nat.pow_le_pow_right (by decide) hn)
  rw [hm1, ht, Int.toNat_natCast, Int.toNat_natCast]
  generalize hp : (fun i => m.testBit i) = p
  generalize hq : (fun i => t.testBit i) = q
  have hpi : ∀ i, m.testBit i = p i := fun i => by rw [← hp]
  have hqi : ∀ i, t.testBit i = q i := fun i => by rw [← hq]
  have hcapR : ∀ i, i ≤ b.1.length → ∀ x ∈ valsR b p i, 0 ≤ x ∧ x ≤ 1000000 := by
    intro i hi x hx
    obtain ⟨j, hj, rfl⟩ := List.mem_map.1 hx
    have := hval j (by have := (bel_mem.1 hj).1; omega)
    omega
  have hcapN : ∀ i, i ≤ n → ∀ x ∈ valsN l q i, 0 ≤ x ∧ x ≤ 1000000 := by
    intro i hi x hx
    obtain ⟨j, hj, rfl⟩ := List.mem_map.1 hx
    exact hl j (by have := (bel_mem.1 hj).1; omega)
  have hne : valsR b p b.1.length ++ valsN l q n ≠ [] := by
    intro h
    have hm0 : m ≠ 0 ∨ t ≠ 0 := by
      by_cases h0 : m = 0
      · exact .inr fun h1 => hsome ⟨by rw [h0]; rfl, by rw [h1]; rfl⟩
      · exact .inl h0
    rw [List.append_eq_nil_iff] at h
    unfold valsR valsN at h
    rw [List.map_eq_nil_iff, List.map_eq_nil_iff] at h
    rcases hm0 with h0 | h0
    · obtain ⟨i, hi⟩ := Nat.exists_testBit_of_ne_zero h0
      have : i ∈ bel p b.1.length := bel_mem.2 ⟨bit_lt hi h1, by rw [← hpi]; exact hi⟩
      rw [h.1] at this
      cases this
    · obtain ⟨i, hi⟩ := Nat.exists_testBit_of_ne_zero h0
      have : i ∈ bel q n := bel_mem.2 ⟨bit_lt hi h2, by rw [← hqi]; exact hi⟩
      rw [h.2] at this
      cases this
  have lenR : ∀ i, (valsR b p i).length ≤ i := fun i => by unfold valsR; rw [List.length_map]; exact bel_len p i
  have lenN : ∀ i, (valsN l q i).length ≤ i := fun i => by unfold valsN; rw [List.length_map]; exact bel_len q i
  have keyN : ∀ (c i : Nat), i + c = n → Ev fun k => T52_1 l i w fd0 (!struckAny b p b.1.length && !fellAny l q i, 0, ()) (valsR b p b.1.length ++ valsN l q i) k = some (if struckAny b p b.1.length = true then fd0 else if fellAny l q n = true then fd0 else madeP w.1 (valsR b p b.1.length ++ valsN l q n), ()) := by
    intro c
    induction c with
    | zero =>
      intro i hi
      obtain rfl : i = n := by omega
      refine U52_1 _ _ _ _ _ _ (Ev.eq (fun _ => Q52_1 _ _ _ _ _ _ _) ?_)
      rw [dec_f (show ¬ ((i : Int) < (l.length : Int)) by omega)]
      have lr := lenR b.1.length
      have ln := lenN i
      have hall : ∀ x ∈ valsR b p b.1.length ++ valsN l q i, 0 ≤ x ∧ x ≤ 1000000 := fun x hx => by
        rcases List.mem_append.1 hx with hx | hx
        · exact hcapR _ (Nat.le_refl _) x hx
        · exact hcapN _ (Nat.le_refl _) x hx
      have hlen : (valsR b p b.1.length ++ valsN l q i).length ≤ 1000 := by rw [List.length_append]; omega
      generalize valsR b p b.1.length ++ valsN l q i = vs at *
      cases hs : struckAny b p b.1.length with
      | true => exact Ev.all fun _ => by first | rfl | trivial
      | false =>
        cases hf : fellAny l q i with
        | true => exact Ev.all fun _ => by first | rfl | trivial
        | false =>
          cases vs with
          | nil => exact absurd rfl hne
          | cons v vs =>
            rw [L105 w.1 o0 o2 v vs (hall v (List.mem_cons_self ..)) (fun x hx => hall x (List.mem_cons_of_mem _ hx)) (by simp only [List.length_cons] at hlen; omega)]
            exact Ev.all fun _ => by first | rfl | trivial
    | succ c ih =>
      intro i hi
      refine U52_1 _ _ _ _ _ _ (Ev.eq (fun _ => Q52_1 _ _ _ _ _ _ _) ?_)
      have hih := ih (i + 1) (by omega)
      have lr := lenR b.1.length
      have ln := lenN i
      rw [dec_t (show (i : Int) < (l.length : Int) by omega), ht, L40 t (by omega) i (by omega), hqi, dec_t (show (0 : Int) ≤ (i : Int) by omega), Int.toNat_natCast, wrap_succ (n := i) (by omega), one_set, getF]
      simp only [cond_true, Option.bind_some, Bool.and_self]
      rw [dec_t (show (valsR b p b.1.length ++ valsN l q i).length + [(l.getD i fd0).2.1].length ≤ 2147483648 by simp only [List.length_append, List.length_cons, List.length_nil]; omega)]
      cases hqb : q i with
      | false =>
        have e1 : fellAny l q (i + 1) = fellAny l q i := by unfold fellAny; rw [bel_succ, if_neg (by rw [hqb]; decide)]
        have e2 : valsN l q (i + 1) = valsN l q i := by unfold valsN; rw [bel_succ, if_neg (by rw [hqb]; decide)]
        rw [e1, e2] at hih
        exact hih
      | true =>
        have e1 : fellAny l q (i + 1) = (fellAny l q i || !(l.getD i fd0).1) := by unfold fellAny; rw [bel_succ, if_pos hqb, List.any_append, List.any_cons, List.any_nil, Bool.or_false]
        have e2 : valsN l q (i + 1) = valsN l q i ++ [(l.getD i fd0).2.1] := by unfold valsN; rw [bel_succ, if_pos hqb, List.map_append]; rfl
        rw [e1, e2, ← List.append_assoc, Bool.not_or, Bool.not_not, ← Bool.and_assoc] at hih
        cases hst : (!struckAny b p b.1.length && !fellAny l q i) with
        | true =>
          rw [hst, Bool.true_and] at hih
          exact hih
        | false =>
          rw [hst, Bool.false_and] at hih
          exact hih
  have keyR : ∀ (c i : Nat), i + c = b.1.length → Ev fun k => T52_0 l i b w fd0 (!struckAny b p i, 0, ()) (valsR b p i) k = some (if struckAny b p b.1.length = true then fd0 else if fellAny l q n = true then fd0 else madeP w.1 (valsR b p b.1.length ++ valsN l q n), ()) := by
    intro c
    induction c with
    | zero =>
      intro i hi
      obtain rfl : i = b.1.length := by omega
      refine U52_0 _ _ _ _ _ _ _ (Ev.eq (fun _ => Q52_0 _ _ _ _ _ _ _ _) ?_)
      rw [dec_f (show ¬ ((b.1.length : Int) < (b.1.length : Int)) by omega)]
      have := keyN n 0 (by omega)
      rw [show fellAny l q 0 = false from rfl, show valsN l q 0 = [] from rfl, Bool.not_false, Bool.and_true, List.append_nil] at this
      exact this
    | succ c ih =>
      intro i hi
      refine U52_0 _ _ _ _ _ _ _ (Ev.eq (fun _ => Q52_0 _ _ _ _ _ _ _ _) ?_)
      have hih := ih (i + 1) (by omega)
      have lr := lenR i
      rw [dec_t (show (i : Int) < (b.1.length : Int) by omega), hm1, L40 m (by omega) i (by omega), hpi, dec_t (show (0 : Int) ≤ (i : Int) by omega), Int.toNat_natCast, wrap_succ (n := i) (by omega), one_set, getR]
      simp only [cond_true, Option.bind_some, Bool.and_self]
      rw [dec_t (show (valsR b p i).length + [(b.1.getD i rw0).1].length ≤ 2147483648 by simp only [List.length_cons, List.length_nil]; omega)]
      cases hpb : p i with
      | false =>
        have e1 : struckAny b p (i + 1) = struckAny b p i := by unfold struckAny; rw [bel_succ, if_neg (by rw [hpb]; decide)]
        have e2 : valsR b p (i + 1) = valsR b p i := by unfold valsR; rw [bel_succ, if_neg (by rw [hpb]; decide)]
        rw [e1, e2] at hih
        exact hih
      | true =>
        have e1 : struckAny b p (i + 1) = (struckAny b p i || (b.1.getD i rw0).2.1) := by unfold struckAny; rw [bel_succ, if_pos hpb, List.any_append, List.any_cons, List.any_nil, Bool.or_false]
        have e2 : valsR b p (i + 1) = valsR b p i ++ [(b.1.getD i rw0).1] := by unfold valsR; rw [bel_succ, if_pos hpb, List.map_append]; rfl
        rw [e1, e2, Bool.not_or] at hih
        cases hst : (!struckAny b p i) with
        | true =>
          rw [hst, Bool.true_and] at hih
          exact hih
        | false =>
          rw [hst, Bool.false_and] at hih
          exact hih
  exact keyR b.1.length 0 (by omega)
end Go.Proofs.Ytallblpnlefpeaa
/- The reference: all numbers, Value, Clash: as the program. Conditions: as each lemma states. -/
namespace Go.Proofs.Ytallblpnlefpeaa
open Go Go.Gh Go.Proofs Go.Few

theorem mem_bitL {n : Int} {k i : Nat} : i ∈ bitL n k ↔ i < k ∧ n.toNat.testBit i = true := by simp [bitL]
theorem makesP_congr (b : Bk) (w : Wy) (rows : Int) {l l' : List Fd} (h : ∀ i, w.2.2.1.toNat.testBit i = true → l.getD i fd0 = l'.getD i fd0) : makesP b w rows l = makesP b w rows l' := by
  unfold makesP
  have e1 : ((bitL w.2.2.1 6).any fun i => !(l.getD i fd0).1) = (bitL w.2.2.1 6).any fun i => !(l'.getD i fd0).1 := any_congr' fun i hi => by rw [h i (mem_bitL.1 hi).2]
  rw [e1]
  rw [show ((bitL w.2.2.1 6).map fun i => (l.getD i fd0).2.1) = (bitL w.2.2.1 6).map fun i => (l'.getD i fd0).2.1 from List.map_congr_left fun i hi => by rw [h i (mem_bitL.1 hi).2]]
theorem VW.bit {b : Bk} {n : Nat} {w : Wy} (h : VW b n w) {i : Nat} (hi : w.2.2.1.toNat.testBit i = true) : i < n := by
  obtain ⟨t, ht⟩ := Int.eq_ofNat_of_zero_le h.n0
  have h2 := h.n1
  rw [ht] at h2 hi
  have h2 : t < 2 ^ n := by exact_mod_cast h2
  exact bit_lt (by simpa using hi) h2
/-- Numbers that were found stay as they are. -/
theorem allN_stay (b : Bk) (rows : Int) {n i : Nat} (hi : i < n) : ∀ c, (allN b rows (n + c)).getD i fd0 = (allN b rows n).getD i fd0
  | 0 => rfl
  | c + 1 => by
    rw [show n + (c + 1) = (n + c) + 1 by omega, allN]
    cases firstP b rows (allN b rows (n + c)) (b.2.1.getD (n + c) []) with
    | none => exact allN_stay b rows hi c
    | some f =>
      simp only
      rw [← allN_stay b rows hi c, List.getD_eq_getElem?_getD, List.getElem?_set_ne (by omega), ← List.getD_eq_getElem?_getD]
theorem take_getD (l : List Fd) {n i : Nat} (h : i < n) : (l.take n).getD i fd0 = l.getD i fd0 := by
  rw [List.getD_eq_getElem?_getD, List.getElem?_take, if_pos h, ← List.getD_eq_getElem?_getD]
theorem firstP_congr {b : Bk} {n : Nat} {rows : Int} {l l' : List Fd} (h : ∀ i, i < n → l.getD i fd0 = l'.getD i fd0) : ∀ {ws : List Wy}, (∀ w ∈ ws, VW b n w) → firstP b rows l ws = firstP b rows l' ws := by
  intro ws hw
  unfold firstP
  rw [List.map_congr_left fun w hm => makesP_congr b w rows (l' := l') fun i hi => h i ((hw w hm).bit hi)]
/-- What 'All' of the reference has found by then. -/
def allT (b : Bk) (n : Nat) : List Fd := (allN b (rowsN b) n).take n
theorem allT_len {b : Bk} (hv : VB b) {n : Nat} (hn : n ≤ b.2.1.length) : (allT b n).length = n := by
  have h := (allN_ok hv (rowsN b) n hn).1
  have h6 := hv.n6
  unfold allT
  rw [List.length_take, h]
  omega
theorem allT_cap {b : Bk} (hv : VB b) {n : Nat} (hn : n ≤ b.2.1.length) {i : Nat} (hi : i < 6) : 0 ≤ ((allT b n).getD i fd0).2.1 ∧ ((allT b n).getD i fd0).2.1 ≤ 1000000 := by
  by_cases h : i < n
  · rw [allT, take_getD _ h]
    exact allN_cap hv _ hn hi
  · rw [allT, List.getD_eq_getElem?_getD, List.getElem?_take, if_neg h]
    decide
theorem allT_succ {b : Bk} (hv : VB b) {n : Nat} (hn : n < b.2.1.length) : allT b (n + 1) = allT b n ++ [(firstP b (rowsN b) (allT b n) (b.2.1.getD n [])).getD fd0] := by
  have h := allN_ok hv (rowsN b) n (by omega)
  have h6 := hv.n6
  have e : firstP b (rowsN b) (allT b n) (b.2.1.getD n []) = firstP b (rowsN b) (allN b (rowsN b) n) (b.2.1.getD n []) := firstP_congr (fun i hi => take_getD _ hi) (hv.ways n hn)
  rw [e, allT, allN]
  have hlt : n < (allN b (rowsN b) n).length := by rw [h.1]; omega
  cases firstP b (rowsN b) (allN b (rowsN b) n) (b.2.1.getD n []) with
  | none =>
    simp only [Option.getD_none]
    rw [List.take_succ_eq_append_getElem hlt, ← h.2.2 n (Nat.le_refl _), getD_lt hlt]
    rfl
  | some f =>
    simp only [Option.getD_some]
    rw [List.take_succ_eq_append_getElem (by rw [List.length_set]; exact hlt), List.getElem_set_self, List.take_set_of_le (Nat.le_refl _)]
    rfl
theorem first_own {b : Bk} {rows : Int} {l : List Fd} {ws : List Wy} {j : Nat} (hj : j < ws.length) : (firstP b rows l (ws.drop j)).getD fd0 = if (makesP b ws[j] rows l).1 = true then makesP b ws[j] rows l else (firstP b rows l (ws.drop (j + 1))).getD fd0 := by
  rw [drop_map_find hj]
  split <;> rfl
/-- 'All' of the reference. -/
theorem L46 (b : Bk) (hv : VB b) : F46 ((b, ()) : Bk × Unit) = some (allT b b.2.1.length, ()) := by
  refine ghost_eq (Ev.eq (fun _ => E46 _ _) ?_)
  have h6 := hv.n6
  have key : ∀ (c n : Nat), n + c = b.2.1.length → Ev fun k => T46_0 n b (allT b n) k = some (allT b b.2.1.length, ()) := by
    intro c
    induction c with
    | zero =>
      intro n hn
      obtain rfl : n = b.2.1.length := by omega
      refine U46_0 _ _ _ (Ev.eq (fun _ => Q46_0 _ _ _ _) ?_)
      rw [dec_f (by omega)]
      exact Ev.all fun _ => by first | rfl | trivial
    | succ c ih =>
      intro n hn
      refine U46_0 _ _ _ (Ev.eq (fun _ => Q46_0 _ _ _ _) ?_)
      have hlt : n < b.2.1.length := by omega
      have hih := ih (n + 1) (by omega)
      have hlen := allT_len hv (n := n) (by omega)
      have hcap := fun i hi => allT_cap hv (n := n) (by omega) (i := i) hi
      have hm := hv.many n hlt
      rw [dec_t (show (n : Int) < (b.2.1.length : Int) by omega), dec_t (show (0 : Int) ≤ (n : Int) by omega), Int.toNat_natCast]
      simp only [Bool.and_self, cond_true]
      rw [allT_succ hv hlt] at hih
      have inner : ∀ (j : Nat) (t : Int), t + 1 = j → j ≤ (b.2.1.getD n []).length → Ev fun k => T46_1 n t b ((firstP b (rowsN b) (allT b n) ((b.2.1.getD n []).drop j)).getD fd0) (allT b n) k = some (allT b b.2.1.length, ()) := by
        intro j
        induction j with
        | zero =>
          intro t ht hj
          refine U46_1 _ _ _ _ _ (Ev.eq (fun _ => Q46_1 _ _ _ _ _ _) ?_)
          rw [dec_f (show ¬ (t ≥ 0) by omega), wrap_succ (n := n) (by omega), one_set, dec_t (show (allT b n).length + [(firstP b (rowsN b) (allT b n) ((b.2.1.getD n []).drop 0)).getD fd0].length ≤ 2147483648 by simp only [List.length_cons, List.length_nil]; omega)]
          exact hih
        | succ j ihj =>
          intro t ht hj
          obtain rfl : t = (j : Int) := by omega
          refine U46_1 _ _ _ _ _ (Ev.eq (fun _ => Q46_1 _ _ _ _ _ _) ?_)
          have hjl : j < (b.2.1.getD n []).length := by omega
          have hi := ihj ((j : Int) - 1) (by omega) (by omega)
          rw [first_own hjl] at hi
          rw [dec_t (show (j : Int) ≥ 0 by omega), dec_t (show (0 : Int) ≤ (n : Int) by omega), dec_t (show (n : Int) < (b.2.1.length : Int) by omega), Int.toNat_natCast, Int.toNat_natCast, dec_t (show (j : Int) < ((b.2.1.getD n []).length : Int) by omega), getD_lt hjl, L52 b hv (by omega) _ (hv.ways n hlt _ (List.getElem_mem hjl)) (allT b n) hlen hcap, wrap_id (x := (j : Int) - 1) (by omega) (by omega)]
          simp only [Bool.and_self, cond_true, Option.bind_some]
          cases hs : (makesP b (b.2.1.getD n [])[j] (rowsN b) (allT b n)).1 with
          | true =>
            rw [if_pos hs] at hi
            exact hi
          | false =>
            rw [if_neg (by rw [hs]; decide)] at hi
            exact hi
      have := inner (b.2.1.getD n []).length (IntKind.wrap IntKind.i64 (((b.2.1.getD n []).length : Int) - 1)) (by rw [wrap_id (by omega) (by omega)]; omega) (Nat.le_refl _)
      rw [List.drop_eq_nil_of_le (Nat.le_refl _)] at this
      exact this
  exact key b.2.1.length 0 (by omega)
theorem allT_at {b : Bk} {i : Nat} (hi : i < b.2.1.length) : (allT b b.2.1.length).getD i fd0 = (allP b (rowsN b)).getD i fd0 := take_getD _ hi

theorem L94 (b : Bk) (n below : Int) (hbl : VB b → 0 ≤ below ∧ below ≤ 1000) : F94 ((b, n, below, ()) : Bk × Int × Int × Unit) = some (enterE b n below, ()) := by
  refine ghost_eq (Ev.eq (fun _ => E94 _ _ _ _) ?_)
  rw [L19]
  simp only [Option.bind_some]
  unfold enterE
  by_cases h : (chkP b).2.2.1 = 0
  · have := hbl (VB_of h)
    rw [h, L51, wrap_id (by omega) (by omega)]
    simp only [Option.bind_some, ne_eq, not_true_eq_false, if_false]
    by_cases h2 : n < 0 ∨ below - 1 < n
    · rw [if_pos h2, show (decide (0 ≤ n) && decide (n ≤ below - 1)) = false by rw [Bool.and_eq_false_iff, decide_eq_false_iff_not, decide_eq_false_iff_not]; omega]
      exact Ev.all fun _ => by first | rfl | trivial
    · rw [if_neg h2, dec_t (show 0 ≤ n by omega), dec_t (show n ≤ below - 1 by omega)]
      exact Ev.all fun _ => by first | rfl | trivial
  · rw [if_pos h, beq_eq_false_iff_ne.2 h]
    exact Ev.all fun _ => by first | rfl | trivial
theorem L87 (b : Bk) (n : Int) : F87 ((b, n, ()) : Bk × Int × Unit) = some (standE b n, ()) := by
  refine ghost_eq (Ev.eq (fun _ => E87 _ _ _) ?_)
  rw [L94 b n _ fun hv => ⟨by omega, by have := hv.n6; omega⟩]
  simp only [Option.bind_some]
  unfold standE
  by_cases h : enterE b n b.2.1.length = 0
  · obtain ⟨hv, h0, h1⟩ := enterE_ok h
    obtain ⟨m, rfl⟩ := Int.eq_ofNat_of_zero_le h0
    rw [h, L46 b hv, dec_t (show (0 : Int) ≤ (m : Int) by omega)]
    simp only [Option.bind_some, ne_eq, not_true_eq_false, if_false]
    rw [allT_len hv (Nat.le_refl _), dec_t h1, Int.toNat_natCast, getF, allT_at (by omega)]
    cases hs : ((allP b (rowsN b)).getD m fd0).1 <;> exact Ev.all fun _ => by first | rfl | trivial
  · rw [if_pos h, beq_eq_false_iff_ne.2 h]
    exact Ev.all fun _ => by first | rfl | trivial
theorem L21 (b : Bk) (n : Int) : F21 ((b, n, ()) : Bk × Int × Unit) = some (valueP b n) := by
  refine ghost_eq (Ev.eq (fun _ => E21 _ _ _) ?_)
  rw [L87]
  simp only [Option.bind_some]
  unfold valueP
  by_cases h : standE b n = 0
  · obtain ⟨hv, h0, h1, _⟩ := standE_ok h
    obtain ⟨m, rfl⟩ := Int.eq_ofNat_of_zero_le h0
    rw [h, L46 b hv, dec_t (show (0 : Int) ≤ (m : Int) by omega)]
    simp only [Option.bind_some, if_true]
    rw [allT_len hv (Nat.le_refl _), dec_t h1, Int.toNat_natCast, getF, allT_at (by omega)]
    exact Ev.all fun _ => by first | rfl | trivial
  · rw [if_neg h, bne_iff_ne.2 h]
    exact Ev.all fun _ => by first | rfl | trivial
theorem makesP_form (b : Bk) (w : Wy) (rows : Int) (l : List Fd) : makesP b w rows l = fd0 ∨ (makesP b w rows l).1 = true := by
  unfold makesP
  split
  · exact .inl rfl
  · split
    · exact .inl rfl
    · cases ((bitL w.2.1 8).map (fun i => (b.1.getD i rw0).1) ++ (bitL w.2.2.1 6).map fun i => (l.getD i fd0).2.1) with
      | nil => exact .inl rfl
      | cons v r => exact .inr rfl
/-- 'Clash' of the reference. -/
theorem L23 (b : Bk) : F23 ((b, ()) : Bk × Unit) = some (clashR b) := by
  refine ghost_eq (Ev.eq (fun _ => E23 _ _) ?_)
  rw [L19]
  simp only [Option.bind_some]
  unfold clashR
  by_cases h : (chkP b).2.2.1 = 0
  · have hv := VB_of h
    have h6 := hv.n6
    rw [if_neg (fun hn => hn h), h, L46 b hv]
    simp only [Option.bind_some]
    have mk : ∀ n, n < b.2.1.length → ∀ w ∈ b.2.1.getD n [], F52 ((b, w, (allT b b.2.1.length).take n, ()) : Bk × Wy × List Fd × Unit) = some (makesP b w (rowsN b) (allP b (rowsN b)), ()) := by
      intro n hn w hw
      have hvw := hv.ways n hn w hw
      have hlen : ((allT b b.2.1.length).take n).length = n := by rw [List.length_take, allT_len hv (Nat.le_refl _)]; omega
      rw [L52 b hv (n := n) (by omega) w hvw _ hlen fun i hi => by
        by_cases hin : i < n
        · rw [take_getD _ hin]
          exact allT_cap hv (Nat.le_refl _) hi
        · rw [List.getD_eq_getElem?_getD, List.getElem?_take, if_neg hin]
          decide]
      rw [makesP_congr b w (rowsN b) (l' := allP b (rowsN b)) fun i hi => by
        have := hvw.bit hi
        rw [take_getD _ this]
        exact allT_at (by omega)]
    have fin : ∀ (o : Option (Nat × Nat × Nat)), o = clashP b (rowsN b) → (match clashP b (rowsN b) with | some (n, i, k) => (((n : Int), (i : Int), (k : Int), (0 : Int), ()) : Int × Int × Int × Int × Unit) | none => (0, 0, 0, 9, ())) = match o with | some (n, i, k) => ((n : Int), (i : Int), (k : Int), 0, ()) | none => (0, 0, 0, 9, ()) := fun o h => by rw [h]
    have hlT := allT_len hv (Nat.le_refl b.2.1.length)
    have key : ∀ (c n : Nat), n + c = b.2.1.length → clN b (rowsN b) (allP b (rowsN b)) (b.2.1.drop n) n = clashP b (rowsN b) → Ev fun k => T23_0 (allT b b.2.1.length) n b k = some (match clashP b (rowsN b) with | some (n, i, k) => (((n : Int), (i : Int), (k : Int), (0 : Int), ()) : Int × Int × Int × Int × Unit) | none => (0, 0, 0, 9, ())) := by
      intro c
      induction c with
      | zero =>
        intro n hn he
        refine U23_0 _ _ _ (Ev.eq (fun _ => Q23_0 _ _ _ _) ?_)
        rw [List.drop_eq_nil_of_le (by omega)] at he
        rw [dec_f (by omega), ← he]
        exact Ev.all fun _ => by first | rfl | trivial
      | succ c ih =>
        intro n hn he
        refine U23_0 _ _ _ (Ev.eq (fun _ => Q23_0 _ _ _ _) ?_)
        have hlt : n < b.2.1.length := by omega
        have hih := ih (n + 1) (by omega)
        have hm := hv.many n hlt
        have hmk := mk n hlt
        rw [dec_t (show (n : Int) < (b.2.1.length : Int) by omega), dec_t (show (0 : Int) ≤ (n : Int) by omega), Int.toNat_natCast]
        simp only [Bool.and_self, cond_true]
        rw [List.drop_eq_getElem_cons hlt, clN, ← getD_lt (z := []) hlt] at he
        generalize b.2.1.getD n [] = ws at *
        have ways : ∀ (c i : Nat), i + c = ws.length → clI ((ws.drop i).map fun w => makesP b w (rowsN b) (allP b (rowsN b))) i = clI (ws.map fun w => makesP b w (rowsN b) (allP b (rowsN b))) 0 → Ev fun k => T23_1 (allT b b.2.1.length) n ws i b k = some (match clashP b (rowsN b) with | some (n, i, k) => (((n : Int), (i : Int), (k : Int), (0 : Int), ()) : Int × Int × Int × Int × Unit) | none => (0, 0, 0, 9, ())) := by
          intro c
          induction c with
          | zero =>
            intro i hi hw
            refine U23_1 _ _ _ _ _ (Ev.eq (fun _ => Q23_1 _ _ _ _ _ _) ?_)
            rw [List.drop_eq_nil_of_le (by omega)] at hw
            rw [dec_f (show ¬ ((i : Int) < (ws.length : Int)) by omega), wrap_succ (n := n) (by omega)]
            rw [← hw] at he
            exact hih he
          | succ c ih2 =>
            intro i hi hw
            refine U23_1 _ _ _ _ _ (Ev.eq (fun _ => Q23_1 _ _ _ _ _ _) ?_)
            have hil : i < ws.length := by omega
            have hih2 := ih2 (i + 1) (by omega)
            have hmi := hmk _ (List.getElem_mem hil)
            rw [dec_t (show (i : Int) < (ws.length : Int) by omega), wrap_succ (n := i) (by omega)]
            simp only [cond_true]
            rw [List.drop_eq_getElem_cons hil, List.map_cons, clI] at hw
            have hgi : ws.getD i (0, 0, 0, ()) = ws[i] := getD_lt hil
            generalize ws[i] = wi at *
            have hform := makesP_form b wi (rowsN b) (allP b (rowsN b))
            generalize makesP b wi (rowsN b) (allP b (rowsN b)) = x at *
            have goes : clK x ((ws.drop (i + 1)).map fun w => makesP b w (rowsN b) (allP b (rowsN b))) (i + 1) = none → Ev fun k => T23_1 (allT b b.2.1.length) n ws ((i + 1 : Nat) : Int) b k = some (match clashP b (rowsN b) with | some (n, i, k) => (((n : Int), (i : Int), (k : Int), (0 : Int), ()) : Int × Int × Int × Int × Unit) | none => (0, 0, 0, 9, ())) := fun h => by
              rw [h] at hw
              exact hih2 hw
            have other : ∀ (c k : Nat), k + c = ws.length → clK x ((ws.drop k).map fun w => makesP b w (rowsN b) (allP b (rowsN b))) k = clK x ((ws.drop (i + 1)).map fun w => makesP b w (rowsN b) (allP b (rowsN b))) (i + 1) → Ev fun f => T23_2 (allT b b.2.1.length) n ws i k b f = some (match clashP b (rowsN b) with | some (n, i, k) => (((n : Int), (i : Int), (k : Int), (0 : Int), ()) : Int × Int × Int × Int × Unit) | none => (0, 0, 0, 9, ())) := by
              intro c
              induction c with
              | zero =>
                intro k hk hx
                refine U23_2 _ _ _ _ _ _ (Ev.eq (fun _ => Q23_2 _ _ _ _ _ _ _) ?_)
                rw [List.drop_eq_nil_of_le (show ws.length ≤ k by omega)] at hx
                rw [dec_f (show ¬ ((k : Int) < (ws.length : Int)) by omega), wrap_succ (n := i) (by omega)]
                exact goes hx.symm
              | succ c ih3 =>
                intro k hk hx
                refine U23_2 _ _ _ _ _ _ (Ev.eq (fun _ => Q23_2 _ _ _ _ _ _ _) ?_)
                have hkl : k < ws.length := by omega
                have hih3 := ih3 (k + 1) (by omega)
                rw [dec_t (show (k : Int) < (ws.length : Int) by omega), dec_t (show (i : Int) < (ws.length : Int) by omega), dec_t (show (0 : Int) ≤ (k : Int) by omega), dec_t (show (0 : Int) ≤ (i : Int) by omega), dec_t (show (0 : Int) ≤ (n : Int) by omega), dec_t (show (n : Int) ≤ ((allT b b.2.1.length).length : Int) by omega), Int.toNat_natCast, Int.toNat_natCast, Int.toNat_natCast, hgi, hmi, getD_lt hkl, hmk _ (List.getElem_mem hkl), wrap_succ (n := k) (by omega)]
                simp only [Bool.and_self, cond_true, Option.bind_some]
                rw [List.drop_eq_getElem_cons hkl, List.map_cons, clK] at hx
                have hformz := makesP_form b ws[k] (rowsN b) (allP b (rowsN b))
                generalize makesP b ws[k] (rowsN b) (allP b (rowsN b)) = z at *
                cases hx1 : x.1 with
                | false =>
                  rw [if_neg (by rw [hx1]; rintro ⟨h, _⟩; cases h)] at hx
                  exact hih3 hx
                | true =>
                  simp only [cond_true]
                  cases hz : z.1 with
                  | false =>
                    rw [if_neg (by rw [hz]; rintro ⟨_, h, _⟩; cases h)] at hx
                    exact hih3 hx
                  | true =>
                    by_cases hne : z = x
                    · rw [if_neg (fun h => h.2.2 hne)] at hx
                      rw [hne, show (x.2.1 != x.2.1) = false by simp]
                      exact hih3 hx
                    · rw [if_pos ⟨hx1, hz, hne⟩] at hx
                      rw [← hx] at hw
                      have hv2 : x.2.1 ≠ z.2.1 := fun e => hne (by
                        obtain ⟨x1, x2, _⟩ := x
                        obtain ⟨z1, z2, _⟩ := z
                        simp only at hx1 hz e
                        rw [hx1, hz, e])
                      rw [bne_iff_ne.2 hv2]
                      simp only at hw
                      rw [← hw] at he
                      simp only at he
                      rw [← he]
                      exact Ev.all fun _ => by first | rfl | trivial
            exact other (ws.length - (i + 1)) (i + 1) (by omega) rfl
        exact ways ws.length 0 (by omega) (by rw [List.drop_zero])
    exact key b.2.1.length 0 (by omega) (by rw [List.drop_zero]; rfl)
  · rw [if_pos h, bne_iff_ne.2 h]
    exact Ev.all fun _ => by first | rfl | trivial
end Go.Proofs.Ytallblpnlefpeaa
