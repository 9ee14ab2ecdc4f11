/- States at the cuts. Conditions: none. -/
import Derived.Test.YtjigflnjgmgmnaaDoorClV
import Derived.Test.YtjigflnjgmgmnaaDoorClD
namespace Go.Proofs.YtjigflnjgmgmnaaDoor
open Go Go.Gh Go.Proofs
noncomputable abbrev T28_0 (t1 : Int) (t8 : Int) (t22 : Int) (t23 : Int) (u14 : (Option ((Int × (List (Int × Int × Unit)) × Unit) × Int × Unit))) (h0 : (Int × (List (Int × Int × Unit)) × Unit)) (h1 : (Option ((Int × (List (Int × Int × Unit)) × Unit) × Int × Unit))) (h2 : (List Int)) (f : Nat) : Option (denL [(.slice (.int .i64)), (.slice (.int .i64)), (.int .i64)]) := iter cxK28 S28 [(.slice (.int .i64)), (.slice (.int .i64)), (.int .i64)] 6000 f 0 K28_0 (((t1, (((), ((), ((), ()))), ((), (t8, (t22, (t23, ())))))), (((), ((), (u14, (((), ((), ((), ()))), ())))), ())), (h0, (h1, (h2, ()))))
theorem U28_0 (t1 : Int) (t8 : Int) (t22 : Int) (t23 : Int) (u14 : (Option ((Int × (List (Int × Int × Unit)) × Unit) × Int × Unit))) (h0 : (Int × (List (Int × Int × Unit)) × Unit)) (h1 : (Option ((Int × (List (Int × Int × Unit)) × Unit) × Int × Unit))) (h2 : (List Int)) {y : denL [(.slice (.int .i64)), (.slice (.int .i64)), (.int .i64)]} (h : Ev fun k => seg cxK28 S28 [(.slice (.int .i64)), (.slice (.int .i64)), (.int .i64)] 6000 some (iter cxK28 S28 [(.slice (.int .i64)), (.slice (.int .i64)), (.int .i64)] 6000 k) 0 K28_0 (((t1, (((), ((), ((), ()))), ((), (t8, (t22, (t23, ())))))), (((), ((), (u14, (((), ((), ((), ()))), ())))), ())), (h0, (h1, (h2, ())))) = some y) : Ev fun k => T28_0 t1 t8 t22 t23 u14 h0 h1 h2 k = some y := iter_ev h
noncomputable abbrev T28_1 (t5 : Int) (v1 : Int) (v8 : Int) (v9 : Int) (v22 : Int) (v23 : Int) (v29 : Bool) (v31 : Int) (w14 : (Option ((Int × (List (Int × Int × Unit)) × Unit) × Int × Unit))) (h0 : (Int × (List (Int × Int × Unit)) × Unit)) (h1 : (Option ((Int × (List (Int × Int × Unit)) × Unit) × Int × Unit))) (h2 : (List Int)) (h3 : Bool) (h5 : (Option ((Int × (List (Int × Int × Unit)) × Unit) × Int × Unit))) (h6 : Int) (h7 : (List (Int × Int × Unit))) (f : Nat) : Option (denL [(.slice (.int .i64)), (.slice (.int .i64)), (.int .i64)]) := iter cxK28 S28 [(.slice (.int .i64)), (.slice (.int .i64)), (.int .i64)] 6000 f 1 K28_1 ((((), ((), ((), ((), (t5, ()))))), (((), ()), ((v1, (((), ((), ((), ()))), ((), (v8, (v9, (v22, (v23, (v29, (((), ((), ((), ()))), (v31, ())))))))))), (((), ((), (w14, (((), ((), ((), ()))), ())))), ())))), (h0, (h1, (h2, (h3, (((), ((), ())), (h5, (h6, (h7, ())))))))))
theorem U28_1 (t5 : Int) (v1 : Int) (v8 : Int) (v9 : Int) (v22 : Int) (v23 : Int) (v29 : Bool) (v31 : Int) (w14 : (Option ((Int × (List (Int × Int × Unit)) × Unit) × Int × Unit))) (h0 : (Int × (List (Int × Int × Unit)) × Unit)) (h1 : (Option ((Int × (List (Int × Int × Unit)) × Unit) × Int × Unit))) (h2 : (List Int)) (h3 : Bool) (h5 : (Option ((Int × (List (Int × Int × Unit)) × Unit) × Int × Unit))) (h6 : Int) (h7 : (List (Int × Int × Unit))) {y : denL [(.slice (.int .i64)), (.slice (.int .i64)), (.int .i64)]} (h : Ev fun k => seg cxK28 S28 [(.slice (.int .i64)), (.slice (.int .i64)), (.int .i64)] 6000 some (iter cxK28 S28 [(.slice (.int .i64)), (.slice (.int .i64)), (.int .i64)] 6000 k) 1 K28_1 ((((), ((), ((), ((), (t5, ()))))), (((), ()), ((v1, (((), ((), ((), ()))), ((), (v8, (v9, (v22, (v23, (v29, (((), ((), ((), ()))), (v31, ())))))))))), (((), ((), (w14, (((), ((), ((), ()))), ())))), ())))), (h0, (h1, (h2, (h3, (((), ((), ())), (h5, (h6, (h7, ()))))))))) = some y) : Ev fun k => T28_1 t5 v1 v8 v9 v22 v23 v29 v31 w14 h0 h1 h2 h3 h5 h6 h7 k = some y := iter_ev h
noncomputable abbrev T28_2 (t1 : Int) (t8 : Int) (t22 : Int) (t23 : Int) (u2 : (List Int)) (u17 : (Option ((Int × (List (Int × Int × Unit)) × Unit) × Int × Unit))) (h0 : (Int × (List (Int × Int × Unit)) × Unit)) (h1 : (Option ((Int × (List (Int × Int × Unit)) × Unit) × Int × Unit))) (h2 : (List Int)) (f : Nat) : Option (denL [(.slice (.int .i64)), (.slice (.int .i64)), (.int .i64)]) := iter cxK28 S28 [(.slice (.int .i64)), (.slice (.int .i64)), (.int .i64)] 6000 f 2 K28_2 (((t1, (((), ((), ((), ()))), ((), (t8, (t22, (t23, ())))))), (((), (u17, (((), ((), ((), ()))), ()))), ())), (h0, (h1, (u2, (h2, ())))))
theorem U28_2 (t1 : Int) (t8 : Int) (t22 : Int) (t23 : Int) (u2 : (List Int)) (u17 : (Option ((Int × (List (Int × Int × Unit)) × Unit) × Int × Unit))) (h0 : (Int × (List (Int × Int × Unit)) × Unit)) (h1 : (Option ((Int × (List (Int × Int × Unit)) × Unit) × Int × Unit))) (h2 : (List Int)) {y : denL [(.slice (.int .i64)), (.slice (.int .i64)), (.int .i64)]} (h : Ev fun k => seg cxK28 S28 [(.slice (.int .i64)), (.slice (.int .i64)), (.int .i64)] 6000 some (iter cxK28 S28 [(.slice (.int .i64)), (.slice (.int .i64)), (.int .i64)] 6000 k) 2 K28_2 (((t1, (((), ((), ((), ()))), ((), (t8, (t22, (t23, ())))))), (((), (u17, (((), ((), ((), ()))), ()))), ())), (h0, (h1, (u2, (h2, ()))))) = some y) : Ev fun k => T28_2 t1 t8 t22 t23 u2 u17 h0 h1 h2 k = some y := iter_ev h
noncomputable abbrev T28_3 (t0 : (List (Int × Int × Unit))) (t7 : Int) (t8 : Int) (u5 : (List (Int × Int × Unit))) (v15 : (List (Int × Int × Unit))) (w5 : Int) (w29 : Bool) (w31 : Int) (w32 : (List (Int × Int × Unit))) (z5_1 : Int) (z5_8 : Int) (z5_9 : Int) (z5_22 : Int) (z5_23 : Int) (z5_29 : Bool) (z5_31 : Int) (z6_14 : (Option ((Int × (List (Int × Int × Unit)) × Unit) × Int × Unit))) (h0 : (Int × (List (Int × Int × Unit)) × Unit)) (h1 : (Option ((Int × (List (Int × Int × Unit)) × Unit) × Int × Unit))) (h2 : (List Int)) (h3 : Bool) (h5 : (Option ((Int × (List (Int × Int × Unit)) × Unit) × Int × Unit))) (h6 : Int) (h7 : (List (Int × Int × Unit))) (h8 : Int) (f : Nat) : Option (denL [(.slice (.int .i64)), (.slice (.int .i64)), (.int .i64)]) := iter cxK28 S28 [(.slice (.int .i64)), (.slice (.int .i64)), (.int .i64)] 6000 f 3 K28_3 (((t0, (((), ((), ())), (t7, (t8, ())))), ((u5, (((), ((), ())), ())), (((), (v15, (((), ((), ())), ()))), (((), ((), ((), ((), (w5, (w29, ((), (w31, (w32, ()))))))))), (((), ()), ((z5_1, (((), ((), ((), ()))), ((), (z5_8, (z5_9, (z5_22, (z5_23, (z5_29, (((), ((), ((), ()))), (z5_31, ())))))))))), (((), ((), (z6_14, (((), ((), ((), ()))), ())))), ()))))))), (h0, (h1, (h2, (h3, (((), ((), ())), (h5, (h6, (h7, (h8, ()))))))))))
theorem U28_3 (t0 : (List (Int × Int × Unit))) (t7 : Int) (t8 : Int) (u5 : (List (Int × Int × Unit))) (v15 : (List (Int × Int × Unit))) (w5 : Int) (w29 : Bool) (w31 : Int) (w32 : (List (Int × Int × Unit))) (z5_1 : Int) (z5_8 : Int) (z5_9 : Int) (z5_22 : Int) (z5_23 : Int) (z5_29 : Bool) (z5_31 : Int) (z6_14 : (Option ((Int × (List (Int × Int × Unit)) × Unit) × Int × Unit))) (h0 : (Int × (List (Int × Int × Unit)) × Unit)) (h1 : (Option ((Int × (List (Int × Int × Unit)) × Unit) × Int × Unit))) (h2 : (List Int)) (h3 : Bool) (h5 : (Option ((Int × (List (Int × Int × Unit)) × Unit) × Int × Unit))) (h6 : Int) (h7 : (List (Int × Int × Unit))) (h8 : Int) {y : denL [(.slice (.int .i64)), (.slice (.int .i64)), (.int .i64)]} (h : Ev fun k => seg cxK28 S28 [(.slice (.int .i64)), (.slice (.int .i64)), (.int .i64)] 6000 some (iter cxK28 S28 [(.slice (.int .i64)), (.slice (.int .i64)), (.int .i64)] 6000 k) 3 K28_3 (((t0, (((), ((), ())), (t7, (t8, ())))), ((u5, (((), ((), ())), ())), (((), (v15, (((), ((), ())), ()))), (((), ((), ((), ((), (w5, (w29, ((), (w31, (w32, ()))))))))), (((), ()), ((z5_1, (((), ((), ((), ()))), ((), (z5_8, (z5_9, (z5_22, (z5_23, (z5_29, (((), ((), ((), ()))), (z5_31, ())))))))))), (((), ((), (z6_14, (((), ((), ((), ()))), ())))), ()))))))), (h0, (h1, (h2, (h3, (((), ((), ())), (h5, (h6, (h7, (h8, ())))))))))) = some y) : Ev fun k => T28_3 t0 t7 t8 u5 v15 w5 w29 w31 w32 z5_1 z5_8 z5_9 z5_22 z5_23 z5_29 z5_31 z6_14 h0 h1 h2 h3 h5 h6 h7 h8 k = some y := iter_ev h
noncomputable abbrev T28_4 (t5 : Int) (v1 : Int) (v8 : Int) (v9 : Int) (v22 : Int) (v23 : Int) (v29 : Bool) (v31 : Int) (w2 : (List Int)) (w17 : (Option ((Int × (List (Int × Int × Unit)) × Unit) × Int × Unit))) (h0 : (Int × (List (Int × Int × Unit)) × Unit)) (h1 : (Option ((Int × (List (Int × Int × Unit)) × Unit) × Int × Unit))) (h2 : (List Int)) (h3 : Bool) (h5 : (Option ((Int × (List (Int × Int × Unit)) × Unit) × Int × Unit))) (h6 : Int) (h7 : (List (Int × Int × Unit))) (f : Nat) : Option (denL [(.slice (.int .i64)), (.slice (.int .i64)), (.int .i64)]) := iter cxK28 S28 [(.slice (.int .i64)), (.slice (.int .i64)), (.int .i64)] 6000 f 4 K28_4 ((((), ((), ((), ((), (t5, ()))))), (((), ()), ((v1, (((), ((), ((), ()))), ((), (v8, (v9, (v22, (v23, (v29, (((), ((), ((), ()))), (v31, ())))))))))), (((), (w17, (((), ((), ((), ()))), ()))), ())))), (h0, (h1, (w2, (h3, (((), ((), ())), (h5, (h6, (h7, (h2, ()))))))))))
theorem U28_4 (t5 : Int) (v1 : Int) (v8 : Int) (v9 : Int) (v22 : Int) (v23 : Int) (v29 : Bool) (v31 : Int) (w2 : (List Int)) (w17 : (Option ((Int × (List (Int × Int × Unit)) × Unit) × Int × Unit))) (h0 : (Int × (List (Int × Int × Unit)) × Unit)) (h1 : (Option ((Int × (List (Int × Int × Unit)) × Unit) × Int × Unit))) (h2 : (List Int)) (h3 : Bool) (h5 : (Option ((Int × (List (Int × Int × Unit)) × Unit) × Int × Unit))) (h6 : Int) (h7 : (List (Int × Int × Unit))) {y : denL [(.slice (.int .i64)), (.slice (.int .i64)), (.int .i64)]} (h : Ev fun k => seg cxK28 S28 [(.slice (.int .i64)), (.slice (.int .i64)), (.int .i64)] 6000 some (iter cxK28 S28 [(.slice (.int .i64)), (.slice (.int .i64)), (.int .i64)] 6000 k) 4 K28_4 ((((), ((), ((), ((), (t5, ()))))), (((), ()), ((v1, (((), ((), ((), ()))), ((), (v8, (v9, (v22, (v23, (v29, (((), ((), ((), ()))), (v31, ())))))))))), (((), (w17, (((), ((), ((), ()))), ()))), ())))), (h0, (h1, (w2, (h3, (((), ((), ())), (h5, (h6, (h7, (h2, ())))))))))) = some y) : Ev fun k => T28_4 t5 v1 v8 v9 v22 v23 v29 v31 w2 w17 h0 h1 h2 h3 h5 h6 h7 k = some y := iter_ev h
noncomputable abbrev T28_5 (t0 : (List (Int × Int × Unit))) (t7 : Int) (t8 : Int) (u5 : (List (Int × Int × Unit))) (v15 : (List (Int × Int × Unit))) (w5 : Int) (w29 : Bool) (w31 : Int) (w32 : (List (Int × Int × Unit))) (z5_1 : Int) (z5_8 : Int) (z5_9 : Int) (z5_22 : Int) (z5_23 : Int) (z5_29 : Bool) (z5_31 : Int) (z6_2 : (List Int)) (z6_17 : (Option ((Int × (List (Int × Int × Unit)) × Unit) × Int × Unit))) (h0 : (Int × (List (Int × Int × Unit)) × Unit)) (h1 : (Option ((Int × (List (Int × Int × Unit)) × Unit) × Int × Unit))) (h2 : (List Int)) (h3 : Bool) (h5 : (Option ((Int × (List (Int × Int × Unit)) × Unit) × Int × Unit))) (h6 : Int) (h7 : (List (Int × Int × Unit))) (h8 : Int) (f : Nat) : Option (denL [(.slice (.int .i64)), (.slice (.int .i64)), (.int .i64)]) := iter cxK28 S28 [(.slice (.int .i64)), (.slice (.int .i64)), (.int .i64)] 6000 f 5 K28_5 (((t0, (((), ((), ())), (t7, (t8, ())))), ((u5, (((), ((), ())), ())), (((), (v15, (((), ((), ())), ()))), (((), ((), ((), ((), (w5, (w29, ((), (w31, (w32, ()))))))))), (((), ()), ((z5_1, (((), ((), ((), ()))), ((), (z5_8, (z5_9, (z5_22, (z5_23, (z5_29, (((), ((), ((), ()))), (z5_31, ())))))))))), (((), (z6_17, (((), ((), ((), ()))), ()))), ()))))))), (h0, (h1, (z6_2, (h3, (((), ((), ())), (h5, (h6, (h7, (h8, (h2, ())))))))))))
theorem U28_5 (t0 : (List (Int × Int × Unit))) (t7 : Int) (t8 : Int) (u5 : (List (Int × Int × Unit))) (v15 : (List (Int × Int × Unit))) (w5 : Int) (w29 : Bool) (w31 : Int) (w32 : (List (Int × Int × Unit))) (z5_1 : Int) (z5_8 : Int) (z5_9 : Int) (z5_22 : Int) (z5_23 : Int) (z5_29 : Bool) (z5_31 : Int) (z6_2 : (List Int)) (z6_17 : (Option ((Int × (List (Int × Int × Unit)) × Unit) × Int × Unit))) (h0 : (Int × (List (Int × Int × Unit)) × Unit)) (h1 : (Option ((Int × (List (Int × Int × Unit)) × Unit) × Int × Unit))) (h2 : (List Int)) (h3 : Bool) (h5 : (Option ((Int × (List (Int × Int × Unit)) × Unit) × Int × Unit))) (h6 : Int) (h7 : (List (Int × Int × Unit))) (h8 : Int) {y : denL [(.slice (.int .i64)), (.slice (.int .i64)), (.int .i64)]} (h : Ev fun k => seg cxK28 S28 [(.slice (.int .i64)), (.slice (.int .i64)), (.int .i64)] 6000 some (iter cxK28 S28 [(.slice (.int .i64)), (.slice (.int .i64)), (.int .i64)] 6000 k) 5 K28_5 (((t0, (((), ((), ())), (t7, (t8, ())))), ((u5, (((), ((), ())), ())), (((), (v15, (((), ((), ())), ()))), (((), ((), ((), ((), (w5, (w29, ((), (w31, (w32, ()))))))))), (((), ()), ((z5_1, (((), ((), ((), ()))), ((), (z5_8, (z5_9, (z5_22, (z5_23, (z5_29, (((), ((), ((), ()))), (z5_31, ())))))))))), (((), (z6_17, (((), ((), ((), ()))), ()))), ()))))))), (h0, (h1, (z6_2, (h3, (((), ((), ())), (h5, (h6, (h7, (h8, (h2, ()))))))))))) = some y) : Ev fun k => T28_5 t0 t7 t8 u5 v15 w5 w29 w31 w32 z5_1 z5_8 z5_9 z5_22 z5_23 z5_29 z5_31 z6_2 z6_17 h0 h1 h2 h3 h5 h6 h7 h8 k = some y := iter_ev h
noncomputable abbrev T31_0 (t1 : Int) (t8 : Int) (t22 : Int) (t23 : Int) (u14 : (Option ((Int × (List (Int × Int × Unit)) × Unit) × Int × Unit))) (h0 : (Option ((Int × (List (Int × Int × Unit)) × Unit) × Int × Unit))) (h1 : (List Int)) (f : Nat) : Option (denL [(.slice (.int .i64)), (.slice (.int .i64)), (.int .i64)]) := iter cxK31 S31 [(.slice (.int .i64)), (.slice (.int .i64)), (.int .i64)] 6000 f 0 K31_0 (((t1, (((), ((), ())), ((), (t8, (t22, (t23, ())))))), (((), (u14, (((), ((), ())), ()))), ())), (h0, (h1, ())))
theorem U31_0 (t1 : Int) (t8 : Int) (t22 : Int) (t23 : Int) (u14 : (Option ((Int × (List (Int × Int × Unit)) × Unit) × Int × Unit))) (h0 : (Option ((Int × (List (Int × Int × Unit)) × Unit) × Int × Unit))) (h1 : (List Int)) {y : denL [(.slice (.int .i64)), (.slice (.int .i64)), (.int .i64)]} (h : Ev fun k => seg cxK31 S31 [(.slice (.int .i64)), (.slice (.int .i64)), (.int .i64)] 6000 some (iter cxK31 S31 [(.slice (.int .i64)), (.slice (.int .i64)), (.int .i64)] 6000 k) 0 K31_0 (((t1, (((), ((), ())), ((), (t8, (t22, (t23, ())))))), (((), (u14, (((), ((), ())), ()))), ())), (h0, (h1, ()))) = some y) : Ev fun k => T31_0 t1 t8 t22 t23 u14 h0 h1 k = some y := iter_ev h
noncomputable abbrev T31_1 (t5 : Int) (v1 : Int) (v8 : Int) (v9 : Int) (v22 : Int) (v23 : Int) (v29 : Bool) (v31 : Int) (w14 : (Option ((Int × (List (Int × Int × Unit)) × Unit) × Int × Unit))) (h0 : (Option ((Int × (List (Int × Int × Unit)) × Unit) × Int × Unit))) (h1 : (List Int)) (h2 : Int) (h3 : Bool) (h5 : (Option ((Int × (List (Int × Int × Unit)) × Unit) × Int × Unit))) (h6 : Int) (h7 : (List (Int × Int × Unit))) (f : Nat) : Option (denL [(.slice (.int .i64)), (.slice (.int .i64)), (.int .i64)]) := iter cxK31 S31 [(.slice (.int .i64)), (.slice (.int .i64)), (.int .i64)] 6000 f 1 K31_1 ((((), ((), ((), ((), (t5, ()))))), (((), ()), ((v1, (((), ((), ())), ((), (v8, (v9, (v22, (v23, (v29, (((), ((), ())), (v31, ())))))))))), (((), (w14, (((), ((), ())), ()))), ())))), (h0, (h1, (h2, (h3, (((), ((), ())), (h5, (h6, (h7, ())))))))))
theorem U31_1 (t5 : Int) (v1 : Int) (v8 : Int) (v9 : Int) (v22 : Int) (v23 : Int) (v29 : Bool) (v31 : Int) (w14 : (Option ((Int × (List (Int × Int × Unit)) × Unit) × Int × Unit))) (h0 : (Option ((Int × (List (Int × Int × Unit)) × Unit) × Int × Unit))) (h1 : (List Int)) (h2 : Int) (h3 : Bool) (h5 : (Option ((Int × (List (Int × Int × Unit)) × Unit) × Int × Unit))) (h6 : Int) (h7 : (List (Int × Int × Unit))) {y : denL [(.slice (.int .i64)), (.slice (.int .i64)), (.int .i64)]} (h : Ev fun k => seg cxK31 S31 [(.slice (.int .i64)), (.slice (.int .i64)), (.int .i64)] 6000 some (iter cxK31 S31 [(.slice (.int .i64)), (.slice (.int .i64)), (.int .i64)] 6000 k) 1 K31_1 ((((), ((), ((), ((), (t5, ()))))), (((), ()), ((v1, (((), ((), ())), ((), (v8, (v9, (v22, (v23, (v29, (((), ((), ())), (v31, ())))))))))), (((), (w14, (((), ((), ())), ()))), ())))), (h0, (h1, (h2, (h3, (((), ((), ())), (h5, (h6, (h7, ()))))))))) = some y) : Ev fun k => T31_1 t5 v1 v8 v9 v22 v23 v29 v31 w14 h0 h1 h2 h3 h5 h6 h7 k = some y := iter_ev h
noncomputable abbrev T31_2 (t1 : Int) (t8 : Int) (t22 : Int) (t23 : Int) (u2 : (List Int)) (u17 : (Option ((Int × (List (Int × Int × Unit)) × Unit) × Int × Unit))) (h0 : (Option ((Int × (List (Int × Int × Unit)) × Unit) × Int × Unit))) (h1 : (List Int)) (f : Nat) : Option (denL [(.slice (.int .i64)), (.slice (.int .i64)), (.int .i64)]) := iter cxK31 S31 [(.slice (.int .i64)), (.slice (.int .i64)), (.int .i64)] 6000 f 2 K31_2 (((t1, (((), ((), ())), ((), (t8, (t22, (t23, ())))))), (((), (u17, (((), ((), ())), ()))), ())), (h0, (u2, (h1, ()))))
theorem U31_2 (t1 : Int) (t8 : Int) (t22 : Int) (t23 : Int) (u2 : (List Int)) (u17 : (Option ((Int × (List (Int × Int × Unit)) × Unit) × Int × Unit))) (h0 : (Option ((Int × (List (Int × Int × Unit)) × Unit) × Int × Unit))) (h1 : (List Int)) {y : denL [(.slice (.int .i64)), (.slice (.int .i64)), (.int .i64)]} (h : Ev fun k => seg cxK31 S31 [(.slice (.int .i64)), (.slice (.int .i64)), (.int .i64)] 6000 some (iter cxK31 S31 [(.slice (.int .i64)), (.slice (.int .i64)), (.int .i64)] 6000 k) 2 K31_2 (((t1, (((), ((), ())), ((), (t8, (t22, (t23, ())))))), (((), (u17, (((), ((), ())), ()))), ())), (h0, (u2, (h1, ())))) = some y) : Ev fun k => T31_2 t1 t8 t22 t23 u2 u17 h0 h1 k = some y := iter_ev h
noncomputable abbrev T31_3 (t5 : Int) (v1 : Int) (v8 : Int) (v9 : Int) (v22 : Int) (v23 : Int) (v29 : Bool) (v31 : Int) (w2 : (List Int)) (w17 : (Option ((Int × (List (Int × Int × Unit)) × Unit) × Int × Unit))) (h0 : (Option ((Int × (List (Int × Int × Unit)) × Unit) × Int × Unit))) (h1 : (List Int)) (h2 : Int) (h3 : Bool) (h5 : (Option ((Int × (List (Int × Int × Unit)) × Unit) × Int × Unit))) (h6 : Int) (h7 : (List (Int × Int × Unit))) (f : Nat) : Option (denL [(.slice (.int .i64)), (.slice (.int .i64)), (.int .i64)]) := iter cxK31 S31 [(.slice (.int .i64)), (.slice (.int .i64)), (.int .i64)] 6000 f 3 K31_3 ((((), ((), ((), ((), (t5, ()))))), (((), ()), ((v1, (((), ((), ())), ((), (v8, (v9, (v22, (v23, (v29, (((), ((), ())), (v31, ())))))))))), (((), (w17, (((), ((), ())), ()))), ())))), (h0, (w2, (h2, (h3, (((), ((), ())), (h5, (h6, (h7, (h1, ()))))))))))
theorem U31_3 (t5 : Int) (v1 : Int) (v8 : Int) (v9 : Int) (v22 : Int) (v23 : Int) (v29 : Bool) (v31 : Int) (w2 : (List Int)) (w17 : (Option ((Int × (List (Int × Int × Unit)) × Unit) × Int × Unit))) (h0 : (Option ((Int × (List (Int × Int × Unit)) × Unit) × Int × Unit))) (h1 : (List Int)) (h2 : Int) (h3 : Bool) (h5 : (Option ((Int × (List (Int × Int × Unit)) × Unit) × Int × Unit))) (h6 : Int) (h7 : (List (Int × Int × Unit))) {y : denL [(.slice (.int .i64)), (.slice (.int .i64)), (.int .i64)]} (h : Ev fun k => seg cxK31 S31 [(.slice (.int .i64)), (.slice (.int .i64)), (.int .i64)] 6000 some (iter cxK31 S31 [(.slice (.int .i64)), (.slice (.int .i64)), (.int .i64)] 6000 k) 3 K31_3 ((((), ((), ((), ((), (t5, ()))))), (((), ()), ((v1, (((), ((), ())), ((), (v8, (v9, (v22, (v23, (v29, (((), ((), ())), (v31, ())))))))))), (((), (w17, (((), ((), ())), ()))), ())))), (h0, (w2, (h2, (h3, (((), ((), ())), (h5, (h6, (h7, (h1, ())))))))))) = some y) : Ev fun k => T31_3 t5 v1 v8 v9 v22 v23 v29 v31 w2 w17 h0 h1 h2 h3 h5 h6 h7 k = some y := iter_ev h
noncomputable abbrev T33_0 (t2 : Int) (t3 : Int) (t5 : (Option ((Int × (List (Int × Int × Unit)) × Unit) × Int × Unit))) (t7 : Int) (t27 : Int) (t28 : Int) (h0a_0 : (Option ((Int × (List (Int × Int × Unit)) × Unit) × Int × Unit))) (f : Nat) : Option (denL [(.int .i64), (.int .i64), (.int .i64)]) := iter cx106 S33 [(.int .i64), (.int .i64), (.int .i64)] 6000 f 0 K33_0 (((t2, (t3, (t5, ((), (t7, (t27, (t28, ()))))))), ()), (((h0a_0, ()), ()), ()))
theorem U33_0 (t2 : Int) (t3 : Int) (t5 : (Option ((Int × (List (Int × Int × Unit)) × Unit) × Int × Unit))) (t7 : Int) (t27 : Int) (t28 : Int) (h0a_0 : (Option ((Int × (List (Int × Int × Unit)) × Unit) × Int × Unit))) {y : denL [(.int .i64), (.int .i64), (.int .i64)]} (h : Ev fun k => seg cx106 S33 [(.int .i64), (.int .i64), (.int .i64)] 6000 some (iter cx106 S33 [(.int .i64), (.int .i64), (.int .i64)] 6000 k) 0 K33_0 (((t2, (t3, (t5, ((), (t7, (t27, (t28, ()))))))), ()), (((h0a_0, ()), ()), ())) = some y) : Ev fun k => T33_0 t2 t3 t5 t7 t27 t28 h0a_0 k = some y := iter_ev h
noncomputable abbrev T33_1 (t5 : Int) (u2 : Int) (u3 : Int) (u5 : (Option ((Int × (List (Int × Int × Unit)) × Unit) × Int × Unit))) (u7 : Int) (u27 : Int) (u28 : Int) (h0a_0 : (Option ((Int × (List (Int × Int × Unit)) × Unit) × Int × Unit))) (h1 : Int) (h2 : Int) (h4 : (Option ((Int × (List (Int × Int × Unit)) × Unit) × Int × Unit))) (h5 : Int) (h6 : (List (Int × Int × Unit))) (f : Nat) : Option (denL [(.int .i64), (.int .i64), (.int .i64)]) := iter cx106 S33 [(.int .i64), (.int .i64), (.int .i64)] 6000 f 1 K33_1 ((((), ((), ((), ((), (t5, ()))))), ((u2, (u3, (u5, ((), (u7, ((), ((), (u27, (u28, ()))))))))), ())), (((h0a_0, ()), ()), (h1, (h2, (((), ((), ((), ()))), (h4, (h5, (h6, ()))))))))
theorem U33_1 (t5 : Int) (u2 : Int) (u3 : Int) (u5 : (Option ((Int × (List (Int × Int × Unit)) × Unit) × Int × Unit))) (u7 : Int) (u27 : Int) (u28 : Int) (h0a_0 : (Option ((Int × (List (Int × Int × Unit)) × Unit) × Int × Unit))) (h1 : Int) (h2 : Int) (h4 : (Option ((Int × (List (Int × Int × Unit)) × Unit) × Int × Unit))) (h5 : Int) (h6 : (List (Int × Int × Unit))) {y : denL [(.int .i64), (.int .i64), (.int .i64)]} (h : Ev fun k => seg cx106 S33 [(.int .i64), (.int .i64), (.int .i64)] 6000 some (iter cx106 S33 [(.int .i64), (.int .i64), (.int .i64)] 6000 k) 1 K33_1 ((((), ((), ((), ((), (t5, ()))))), ((u2, (u3, (u5, ((), (u7, ((), ((), (u27, (u28, ()))))))))), ())), (((h0a_0, ()), ()), (h1, (h2, (((), ((), ((), ()))), (h4, (h5, (h6, ())))))))) = some y) : Ev fun k => T33_1 t5 u2 u3 u5 u7 u27 u28 h0a_0 h1 h2 h4 h5 h6 k = some y := iter_ev h
noncomputable abbrev T109_0 (t0 : (List Int)) (t1 : (List Int)) (t9 : (List Int)) (t10 : Int) (t11 : Int) (f : Nat) : Option (denL [(.int .i64)]) := iter cx132 S109 [(.int .i64)] 6000 f 0 K109_0 (((t0, (t1, (t9, (t10, (t11, ()))))), ()), ())
theorem U109_0 (t0 : (List Int)) (t1 : (List Int)) (t9 : (List Int)) (t10 : Int) (t11 : Int) {y : denL [(.int .i64)]} (h : Ev fun k => seg cx132 S109 [(.int .i64)] 6000 some (iter cx132 S109 [(.int .i64)] 6000 k) 0 K109_0 (((t0, (t1, (t9, (t10, (t11, ()))))), ()), ()) = some y) : Ev fun k => T109_0 t0 t1 t9 t10 t11 k = some y := iter_ev h
noncomputable abbrev T35_0 (t1 : Int) (t8 : Int) (t22 : Int) (t23 : Int) (_ : (List Int)) (u23 : (Option ((Int × (List (Int × Int × Unit)) × Unit) × Int × Unit))) (h0 : (Int × (List (Int × Int × Unit)) × Unit)) (h1 : (List Int)) (f : Nat) : Option (denL [(.slice (.int .i64)), (.int .i64)]) := iter cxK35 S35 [(.slice (.int .i64)), (.int .i64)] 6000 f 0 K35_0 (((t1, (((), ((), ())), ((), (t8, (t22, (t23, ())))))), (((), ((), (u23, (((), ((), ())), ())))), ())), (h0, (h1, ())))
theorem U35_0 (t1 : Int) (t8 : Int) (t22 : Int) (t23 : Int) (u2 : (List Int)) (u23 : (Option ((Int × (List (Int × Int × Unit)) × Unit) × Int × Unit))) (h0 : (Int × (List (Int × Int × Unit)) × Unit)) (h1 : (List Int)) {y : denL [(.slice (.int .i64)), (.int .i64)]} (h : Ev fun k => seg cxK35 S35 [(.slice (.int .i64)), (.int .i64)] 6000 some (iter cxK35 S35 [(.slice (.int .i64)), (.int .i64)] 6000 k) 0 K35_0 (((t1, (((), ((), ())), ((), (t8, (t22, (t23, ())))))), (((), ((), (u23, (((), ((), ())), ())))), ())), (h0, (h1, ()))) = some y) : Ev fun k => T35_0 t1 t8 t22 t23 u2 u23 h0 h1 k = some y := iter_ev h
noncomputable abbrev T35_1 (t2 : (List Int)) (t5 : (List Int)) (t6 : Bool) (t28 : Int) (t29 : Int) (h0 : (Int × (List (Int × Int × Unit)) × Unit)) (f : Nat) : Option (denL [(.slice (.int .i64)), (.int .i64)]) := iter cxK35 S35 [(.slice (.int .i64)), (.int .i64)] 6000 f 1 K35_1 ((((), ((), (t5, (t6, (t28, (t29, ())))))), ()), (h0, (t2, ())))
theorem U35_1 (t2 : (List Int)) (t5 : (List Int)) (t6 : Bool) (t28 : Int) (t29 : Int) (h0 : (Int × (List (Int × Int × Unit)) × Unit)) {y : denL [(.slice (.int .i64)), (.int .i64)]} (h : Ev fun k => seg cxK35 S35 [(.slice (.int .i64)), (.int .i64)] 6000 some (iter cxK35 S35 [(.slice (.int .i64)), (.int .i64)] 6000 k) 1 K35_1 ((((), ((), (t5, (t6, (t28, (t29, ())))))), ()), (h0, (t2, ()))) = some y) : Ev fun k => T35_1 t2 t5 t6 t28 t29 h0 k = some y := iter_ev h
noncomputable abbrev T35_2 (t2 : (List Int)) (t5 : (List Int)) (t6 : Bool) (t7 : Int) (t8 : Int) (t28 : Int) (t29 : Int) (t32 : (List Int)) (t33 : Int) (t34 : Int) (h0 : (Int × (List (Int × Int × Unit)) × Unit)) (h1 : (List Int)) (f : Nat) : Option (denL [(.slice (.int .i64)), (.int .i64)]) := iter cxK35 S35 [(.slice (.int .i64)), (.int .i64)] 6000 f 2 K35_2 ((((), ((), (t5, (t6, (t7, (t8, ((), (t28, (t29, (t32, (t33, (t34, ())))))))))))), ()), (h0, (t2, (h1, ()))))
theorem U35_2 (t2 : (List Int)) (t5 : (List Int)) (t6 : Bool) (t7 : Int) (t8 : Int) (t28 : Int) (t29 : Int) (t32 : (List Int)) (t33 : Int) (t34 : Int) (h0 : (Int × (List (Int × Int × Unit)) × Unit)) (h1 : (List Int)) {y : denL [(.slice (.int .i64)), (.int .i64)]} (h : Ev fun k => seg cxK35 S35 [(.slice (.int .i64)), (.int .i64)] 6000 some (iter cxK35 S35 [(.slice (.int .i64)), (.int .i64)] 6000 k) 2 K35_2 ((((), ((), (t5, (t6, (t7, (t8, ((), (t28, (t29, (t32, (t33, (t34, ())))))))))))), ()), (h0, (t2, (h1, ())))) = some y) : Ev fun k => T35_2 t2 t5 t6 t7 t8 t28 t29 t32 t33 t34 h0 h1 k = some y := iter_ev h
end Go.Proofs.YtjigflnjgmgmnaaDoor
/- What Tops of package cloud comes to. Conditions: as each lemma states. -/
namespace Go.Proofs.YtjigflnjgmgmnaaDoor
open Go Go.Gh Go.Proofs
def allN (f : Int → Bool) : Nat → Int → Bool
 | 0, _ => true
 | e + 1, n => f n && allN f e (n + 1)
def anyN (f : Int → Bool) : Nat → Int → Bool
 | 0, _ => false
 | e + 1, n => f n || anyN f e (n + 1)
def rowL (A : List Int) (len : Nat) : List Int := A ++ List.replicate (len - A.length) 0
theorem rowL_len {A : List Int} {len : Nat} (h : A.length ≤ len) : (rowL A len).length = len := by simp [rowL]; omega
theorem put_row (A : List Int) (len : Nat) (x : Int) (h : A.length < len) :
  (List.take A.length (rowL A len) ++ List.take (min (List.length [x]) (List.length (rowL A len) - A.length)) [x] ++ List.drop (A.length + min (List.length [x]) (List.length (rowL A len) - A.length)) (rowL A len)) = rowL (A ++ [x]) len := by
 have e : min (List.length [x]) (List.length (rowL A len) - A.length) = 1 := by rw [rowL_len (by omega)]; simp; omega
 rw [e]
 unfold rowL
 obtain ⟨r, hr⟩ : ∃ r, len - A.length = r + 1 := ⟨len - A.length - 1, by omega⟩
 rw [hr, show len - (A ++ [x]).length = r by simp; omega]
 simp [List.replicate_succ, List.drop_append]
theorem put_cnt (A : List Int) (len : Nat) (x : Int) (h : A.length < len) (hl : len ≤ 12) :
  IntKind.wrap IntKind.i64 ((A.length : Int) + ((min (List.length [x]) (List.length (rowL A len) - A.length) : Nat) : Int)) = (((A ++ [x]).length : Nat) : Int) := by
 have e : min (List.length [x]) (List.length (rowL A len) - A.length) = 1 := by rw [rowL_len (by omega)]; simp; omega
 rw [e, wrap_id (by omega) (by omega)]
 simp
theorem take_row0 (A : List Int) (len : Nat) : List.take A.length (rowL A len) = A := by simp [rowL]
theorem take_row (A : List Int) (len : Nat) : List.take A.length (List.drop 0 (rowL A len)) = A := by simp [rowL]
def topS (m : Mo) (d : Nat) (n : Int) : Bool := !(alive (spn m (d, n, ())) && ((spn m (d, n, ())).take m.1.2.1.length).any fun s => decide (s.2.1 > n))
def topM (m : Mo) (d : Nat) (n : Int) : Bool := alive (spn m (d, n, ())) && !((spn m (d, n, ())).take m.1.2.1.length).any fun s => decide (s.1 > n)
def many (B : List Sp) (d : Nat) : Nat := ((B.getD d z0).2.1 + 1 - (B.getD d z0).1).toNat
def sureTop (m : Mo) (B : List Sp) (d : Nat) : Bool := allN (topS m d) (many B d) (B.getD d z0).1
def mayTop (m : Mo) (B : List Sp) (d : Nat) : Bool := anyN (topM m d) (many B d) (B.getD d z0).1
theorem bd_pt {n : Int} (h0 : 0 ≤ n) (h1 : n ≤ 100) (d : Nat) : Bd1 (sp (((d : Int), n, ()) : Sp).2.1 (((d : Int), n, ()) : Sp).2.1) := by unfold Bd1 sp; simp only; omega
theorem tops3 (c : Int × List Sp × Unit) (hv : Valid c) (d : Nat) (hd : d < c.2.1.length) (B : List Sp) (A : List Int) (_ : A.length ≤ d) (y : denL [(.slice (.int .i64)), (.slice (.int .i64)), (.int .i64)]) (n : Int) (hn0 : 0 ≤ n) (hn1 : n ≤ 100) (l L : List Sp) (hL : L.length ≤ 12) :
  ∀ (e j : Nat), j + e = L.length →
  (if (L.drop j).any (fun s => decide (s.2.1 > n)) = true then Ev fun k => T28_0 0 A.length c.2.1.length ((d + 1 : Nat) : Int) (some (c, 0, ())) c (some (c, 0, ())) (rowL A c.2.1.length) k = some y
    else Ev fun k => T28_1 (n + 1) 0 A.length d c.2.1.length d true d (some (c, 0, ())) c (some (c, 0, ())) (rowL A c.2.1.length) false (some (c, 0, ())) d B k = some y) →
  Ev fun k => T28_3 L L.length j L L n true n l 0 A.length d c.2.1.length d true d (some (c, 0, ())) c (some (c, 0, ())) (rowL A c.2.1.length) false (some (c, 0, ())) d B n k = some y := by
 have hl := hv.l12
 have wn : IntKind.wrap IntKind.i64 (n + 1) = n + 1 := wrap_id (by omega) (by omega)
 have wd : IntKind.wrap IntKind.i64 ((d : Int) + 1) = ((d + 1 : Nat) : Int) := by rw [wrap_id (by omega) (by omega)]; omega
 intro e
 induction e with
 | zero =>
  intro j hj h
  refine U28_3 _ _ _ _ _ _ _ _ _ _ _ _ _ _ _ _ _ _ _ _ _ _ _ _ _ (Ev.eq (fun _ => Q28_3 _ _ _ _ _ _ _ _ _ _ _ _ _ _ _ _ _ _ _ _ _ _ _ _ _ _) ?_)
  rw [List.drop_eq_nil_of_le (by omega)] at h
  simp only [List.any_nil, Bool.false_eq_true, if_false] at h
  simp only [dec_f (show ¬ ((j : Int) < (L.length : Int)) by omega), cond_false, cond_true, wn]
  exact h
 | succ e ih =>
  intro j hj h
  refine U28_3 _ _ _ _ _ _ _ _ _ _ _ _ _ _ _ _ _ _ _ _ _ _ _ _ _ (Ev.eq (fun _ => Q28_3 _ _ _ _ _ _ _ _ _ _ _ _ _ _ _ _ _ _ _ _ _ _ _ _ _ _) ?_)
  have hlt : j < L.length := by omega
  have d1 : (0 : Int) ≤ (j : Int) := by omega
  have d2 : (j : Int) < (L.length : Int) := by omega
  have d3 : (j : Int) ≥ 0 := by omega
  have wj : IntKind.wrap IntKind.i64 ((j : Int) + 1) = ((j + 1 : Nat) : Int) := by rw [wrap_id (by omega) (by omega)]; omega
  have hg : L.getD j (0, 0, ()) = L[j] := by simp [List.getD_eq_getElem?_getD, hlt]
  rw [List.drop_eq_getElem_cons hlt, List.any_cons] at h
  simp only [dec_t d1, dec_t d2, Bool.and_self, cond_true, cond_false, Int.toNat_natCast, wj, wn, wd, hg]
  by_cases hb : L[j].2.1 > n
  ·simp only [dec_t hb, cond_true, Bool.true_or, if_true] at h ⊢
   exact h
  ·simp only [dec_f hb, cond_false, Bool.false_or] at h ⊢
   exact ih (j + 1) (by omega) h
theorem tops1 (c : Int × List Sp × Unit) (hv : Valid c) (d : Nat) (hd : d < c.2.1.length) (B : List Sp) (A : List Int) (hA : A.length ≤ d) (y : denL [(.slice (.int .i64)), (.slice (.int .i64)), (.int .i64)]) (hhi : (B.getD d z0).2.1 ≤ 100) : ∀ (e : Nat) (n : Int), (n + e = (B.getD d z0).2.1 + 1 ∨ e = 0 ∧ (B.getD d z0).2.1 < n) → 0 ≤ n →
  (if allN (topS (c, 0, ()) d) e n = true then Ev fun k => T28_0 0 (A ++ [(d : Int)]).length c.2.1.length ((d + 1 : Nat) : Int) (some (c, 0, ())) c (some (c, 0, ())) (rowL (A ++ [(d : Int)]) c.2.1.length) k = some y
    else Ev fun k => T28_0 0 A.length c.2.1.length ((d + 1 : Nat) : Int) (some (c, 0, ())) c (some (c, 0, ())) (rowL A c.2.1.length) k = some y) →
  Ev fun k => T28_1 n 0 A.length d c.2.1.length d true d (some (c, 0, ())) c (some (c, 0, ())) (rowL A c.2.1.length) false (some (c, 0, ())) d B k = some y := by
 have hl := hv.l12
 have wd : IntKind.wrap IntKind.i64 ((d : Int) + 1) = ((d + 1 : Nat) : Int) := by rw [wrap_id (by omega) (by omega)]; omega
 have d1 : (0 : Int) ≤ (d : Int) := by omega
 have d2 : (d : Int) < 12 := by omega
 have d3 : d < 12 := by omega
 have d4 : (0 : Int) ≤ (A.length : Int) := by omega
 have d5 : (A.length : Int) ≤ ((rowL A c.2.1.length).length : Int) := by rw [rowL_len (by omega)]; omega
 have d6 : (0 : Int) ≤ (c.2.1.length : Int) := by omega
 have d7 : (c.2.1.length : Int) ≤ 12 := by omega
 intro e
 induction e with
 | zero =>
  intro n hn h0 h
  refine U28_1 _ _ _ _ _ _ _ _ _ _ _ _ _ _ _ _ (Ev.eq (fun _ => Q28_1 _ _ _ _ _ _ _ _ _ _ _ _ _ _ _ _ _) ?_)
  simp only [allN, if_true] at h
  have d8 : ¬ (n ≤ (B.getD d (0, 0, ())).2.1) := by
   rw [show B.getD d (0, 0, ()) = B.getD d z0 from rfl]; omega
  simp only [dec_t d1, dec_t d2, dec_t d3, dec_t d4, dec_t d5, dec_f d8, Bool.and_self, cond_true, cond_false, Int.toNat_natCast, wd]
  simp only [one_set]
  rw [put_row A _ _ (by omega), put_cnt A _ _ (by omega) hl]
  exact h
 | succ e ih =>
  intro n hn h0 h
  refine U28_1 _ _ _ _ _ _ _ _ _ _ _ _ _ _ _ _ (Ev.eq (fun _ => Q28_1 _ _ _ _ _ _ _ _ _ _ _ _ _ _ _ _ _) ?_)
  have d8 : n ≤ (B.getD d (0, 0, ())).2.1 := by
   rw [show B.getD d (0, 0, ()) = B.getD d z0 from rfl]; omega
  have hn1 : n ≤ 100 := by omega
  have wn : IntKind.wrap IntKind.i64 (n + 1) = n + 1 := wrap_id (by omega) (by omega)
  have hs := L88 (c, 0, ()) 0 (d, n, ()) hv rfl (by decide) (bd_pt h0 hn1 d)
  simp only [dec_t d1, dec_t d2, dec_t d3, dec_t d6, dec_t d7, dec_t d8, Bool.and_self, cond_true, Int.toNat_natCast, wn]
  rw [hs]
  simp only [Option.bind_some, out88]
  simp only [allN] at h
  cases ha : alive (spn (c, 0, ()) (d, n, ())) with
  | false =>
   have ha' : decide (((spn (c, 0, ()) (d, n, ())).getD 0 z0).1 ≤ ((spn (c, 0, ()) (d, n, ())).getD 0 z0).2.1) = false := ha
   simp only [ha', cond_false]
   have ht : topS (c, 0, ()) d n = true := by unfold topS; rw [ha]; rfl
   simp only [ht, Bool.true_and] at h
   exact ih (n + 1) (by omega) (by omega) h
  | true =>
   have ha' : decide (((spn (c, 0, ()) (d, n, ())).getD 0 z0).1 ≤ ((spn (c, 0, ()) (d, n, ())).getD 0 z0).2.1) = true := ha
   simp only [ha', cond_true]
   refine tops3 c hv d hd B A hA y n h0 hn1 _ _ (by rw [List.length_take]; omega) _ 0 (Nat.zero_add _) ?_
   rw [List.drop_zero]
   cases hany : ((spn (c, 0, ()) (d, n, ())).take c.2.1.length).any fun s => decide (s.2.1 > n) with
   | true =>
    have ht : topS (c, 0, ()) d n = false := by unfold topS; rw [ha, hany]; rfl
    simp only [ht, Bool.false_and, Bool.false_eq_true, if_false] at h
    simp only [if_true]
    exact h
   | false =>
    have ht : topS (c, 0, ()) d n = true := by unfold topS; rw [ha, hany]; rfl
    simp only [ht, Bool.true_and] at h
    simp only [Bool.false_eq_true, if_false]
    exact ih (n + 1) (by omega) (by omega) h
end Go.Proofs.YtjigflnjgmgmnaaDoor
/- What Tops of package cloud comes to: the days that perhaps are greatest. Conditions: as each lemma states. -/
namespace Go.Proofs.YtjigflnjgmgmnaaDoor
open Go Go.Gh Go.Proofs
theorem tops5 (c : Int × List Sp × Unit) (hv : Valid c) (d : Nat) (hd : d < c.2.1.length) (B : List Sp) (A S : List Int) (hA : A.length ≤ d) (y : denL [(.slice (.int .i64)), (.slice (.int .i64)), (.int .i64)]) (n : Int) (hn0 : 0 ≤ n) (hn1 : n ≤ 100) (l L : List Sp) (hL : L.length ≤ 12) :
  ∀ (e j : Nat), j + e = L.length →
  (if (L.drop j).any (fun s => decide (s.1 > n)) = true then Ev fun k => T28_4 (n + 1) 0 A.length d c.2.1.length d true d S (some (c, 0, ())) c (some (c, 0, ())) (rowL A c.2.1.length) false (some (c, 0, ())) d B k = some y
    else Ev fun k => T28_2 0 (A ++ [(d : Int)]).length c.2.1.length ((d + 1 : Nat) : Int) S (some (c, 0, ())) c (some (c, 0, ())) (rowL (A ++ [(d : Int)]) c.2.1.length) k = some y) →
  Ev fun k => T28_5 L L.length j L L n true n l 0 A.length d c.2.1.length d true d S (some (c, 0, ())) c (some (c, 0, ())) (rowL A c.2.1.length) false (some (c, 0, ())) d B n k = some y := by
 have hl := hv.l12
 have wn : IntKind.wrap IntKind.i64 (n + 1) = n + 1 := wrap_id (by omega) (by omega)
 have wd : IntKind.wrap IntKind.i64 ((d : Int) + 1) = ((d + 1 : Nat) : Int) := by rw [wrap_id (by omega) (by omega)]; omega
 have d4 : (0 : Int) ≤ (A.length : Int) := by omega
 have d5 : (A.length : Int) ≤ ((rowL A c.2.1.length).length : Int) := by rw [rowL_len (by omega)]; omega
 intro e
 induction e with
 | zero =>
  intro j hj h
  refine U28_5 _ _ _ _ _ _ _ _ _ _ _ _ _ _ _ _ _ _ _ _ _ _ _ _ _ _ (Ev.eq (fun _ => Q28_5 _ _ _ _ _ _ _ _ _ _ _ _ _ _ _ _ _ _ _ _ _ _ _ _ _ _ _) ?_)
  rw [List.drop_eq_nil_of_le (by omega)] at h
  simp only [List.any_nil, Bool.false_eq_true, if_false] at h
  simp only [dec_f (show ¬ ((j : Int) < (L.length : Int)) by omega), dec_t d4, dec_t d5, Bool.and_self, cond_false, cond_true, Int.toNat_natCast, wn, wd]
  simp only [one_set]
  rw [put_row A _ _ (by omega), put_cnt A _ _ (by omega) hl]
  exact h
 | succ e ih =>
  intro j hj h
  refine U28_5 _ _ _ _ _ _ _ _ _ _ _ _ _ _ _ _ _ _ _ _ _ _ _ _ _ _ (Ev.eq (fun _ => Q28_5 _ _ _ _ _ _ _ _ _ _ _ _ _ _ _ _ _ _ _ _ _ _ _ _ _ _ _) ?_)
  have hlt : j < L.length := by omega
  have d1 : (0 : Int) ≤ (j : Int) := by omega
  have d2 : (j : Int) < (L.length : Int) := by omega
  have d3 : (j : Int) ≥ 0 := by omega
  have wj : IntKind.wrap IntKind.i64 ((j : Int) + 1) = ((j + 1 : Nat) : Int) := by rw [wrap_id (by omega) (by omega)]; omega
  have hg : L.getD j (0, 0, ()) = L[j] := by simp [List.getD_eq_getElem?_getD, hlt]
  rw [List.drop_eq_getElem_cons hlt, List.any_cons] at h
  simp only [dec_t d1, dec_t d2, Bool.not_true, Bool.and_self, cond_true, cond_false, Int.toNat_natCast, wj, wn, hg]
  by_cases hb : L[j].1 > n
  ·simp only [dec_t hb, cond_true, Bool.true_or, if_true] at h ⊢
   exact h
  ·simp only [dec_f hb, cond_false, Bool.false_or] at h ⊢
   exact ih (j + 1) (by omega) h
theorem tops4 (c : Int × List Sp × Unit) (hv : Valid c) (d : Nat) (hd : d < c.2.1.length) (B : List Sp) (A S : List Int) (hA : A.length ≤ d) (y : denL [(.slice (.int .i64)), (.slice (.int .i64)), (.int .i64)]) (hhi : (B.getD d z0).2.1 ≤ 100) : ∀ (e : Nat) (n : Int), (n + e = (B.getD d z0).2.1 + 1 ∨ e = 0 ∧ (B.getD d z0).2.1 < n) → 0 ≤ n →
  (if anyN (topM (c, 0, ()) d) e n = true then Ev fun k => T28_2 0 (A ++ [(d : Int)]).length c.2.1.length ((d + 1 : Nat) : Int) S (some (c, 0, ())) c (some (c, 0, ())) (rowL (A ++ [(d : Int)]) c.2.1.length) k = some y
    else Ev fun k => T28_2 0 A.length c.2.1.length ((d + 1 : Nat) : Int) S (some (c, 0, ())) c (some (c, 0, ())) (rowL A c.2.1.length) k = some y) →
  Ev fun k => T28_4 n 0 A.length d c.2.1.length d true d S (some (c, 0, ())) c (some (c, 0, ())) (rowL A c.2.1.length) false (some (c, 0, ())) d B k = some y := by
 have hl := hv.l12
 have wd : IntKind.wrap IntKind.i64 ((d : Int) + 1) = ((d + 1 : Nat) : Int) := by rw [wrap_id (by omega) (by omega)]; omega
 have d1 : (0 : Int) ≤ (d : Int) := by omega
 have d2 : (d : Int) < 12 := by omega
 have d3 : d < 12 := by omega
 have d6 : (0 : Int) ≤ (c.2.1.length : Int) := by omega
 have d7 : (c.2.1.length : Int) ≤ 12 := by omega
 intro e
 induction e with
 | zero =>
  intro n hn h0 h
  refine U28_4 _ _ _ _ _ _ _ _ _ _ _ _ _ _ _ _ _ (Ev.eq (fun _ => Q28_4 _ _ _ _ _ _ _ _ _ _ _ _ _ _ _ _ _ _) ?_)
  simp only [anyN, Bool.false_eq_true, if_false] at h
  have d8 : ¬ (n ≤ (B.getD d (0, 0, ())).2.1) := by
   rw [show B.getD d (0, 0, ()) = B.getD d z0 from rfl]; omega
  simp only [dec_t d1, dec_t d2, dec_t d3, dec_f d8, Bool.and_self, cond_true, cond_false, Int.toNat_natCast, wd]
  exact h
 | succ e ih =>
  intro n hn h0 h
  refine U28_4 _ _ _ _ _ _ _ _ _ _ _ _ _ _ _ _ _ (Ev.eq (fun _ => Q28_4 _ _ _ _ _ _ _ _ _ _ _ _ _ _ _ _ _ _) ?_)
  have d8 : n ≤ (B.getD d (0, 0, ())).2.1 := by
   rw [show B.getD d (0, 0, ()) = B.getD d z0 from rfl]; omega
  have hn1 : n ≤ 100 := by omega
  have wn : IntKind.wrap IntKind.i64 (n + 1) = n + 1 := wrap_id (by omega) (by omega)
  have hs := L88 (c, 0, ()) 0 (d, n, ()) hv rfl (by decide) (bd_pt h0 hn1 d)
  simp only [dec_t d1, dec_t d2, dec_t d3, dec_t d6, dec_t d7, dec_t d8, Bool.and_self, cond_true, Int.toNat_natCast, wn]
  rw [hs]
  simp only [Option.bind_some, out88]
  simp only [anyN] at h
  cases ha : alive (spn (c, 0, ()) (d, n, ())) with
  | false =>
   have ha' : decide (((spn (c, 0, ()) (d, n, ())).getD 0 z0).1 ≤ ((spn (c, 0, ()) (d, n, ())).getD 0 z0).2.1) = false := ha
   simp only [ha', cond_false]
   have ht : topM (c, 0, ()) d n = false := by unfold topM; rw [ha]; rfl
   simp only [ht, Bool.false_or] at h
   exact ih (n + 1) (by omega) (by omega) h
  | true =>
   have ha' : decide (((spn (c, 0, ()) (d, n, ())).getD 0 z0).1 ≤ ((spn (c, 0, ()) (d, n, ())).getD 0 z0).2.1) = true := ha
   simp only [ha', cond_true]
   refine tops5 c hv d hd B A S hA y n h0 hn1 _ _ (by rw [List.length_take]; omega) _ 0 (Nat.zero_add _) ?_
   rw [List.drop_zero]
   cases hany : ((spn (c, 0, ()) (d, n, ())).take c.2.1.length).any fun s => decide (s.1 > n) with
   | true =>
    have ht : topM (c, 0, ()) d n = false := by unfold topM; rw [ha, hany]; rfl
    simp only [ht, Bool.false_or] at h
    simp only [if_true]
    exact ih (n + 1) (by omega) (by omega) h
   | false =>
    have ht : topM (c, 0, ()) d n = true := by unfold topM; rw [ha, hany]; rfl
    simp only [ht, Bool.true_or, if_true] at h
    simp only [Bool.false_eq_true, if_false]
    exact h
theorem spn_day (c : Int × List Sp × Unit) (hv : Valid c) (ha : alive (spn (c, 0, ()) nob) = true) {d : Nat} (hd : d < c.2.1.length) : 0 ≤ ((spn (c, 0, ()) nob).getD d z0).1 ∧ ((spn (c, 0, ()) nob).getD d z0).1 ≤ ((spn (c, 0, ()) nob).getD d z0).2.1 ∧ ((spn (c, 0, ()) nob).getD d z0).2.1 ≤ 100 := by
 obtain ⟨s1, s2⟩ := spn_char (c, 0, ()) nob hv bd_nob
 obtain ⟨t1, t2⟩ := s1 ha
 have h1 := t1.own d hd
 have h2 := t2.own d hd
 have h3 := own_range _ _ hv h1.1 h1.2
 have h4 := own_range _ _ hv h2.1 h2.2
 have h5 := (s2 _ t2).2 d hd
 simp only [lows, highs] at h3 h4 h5
 omega
theorem many_eq (c : Int × List Sp × Unit) (hv : Valid c) (ha : alive (spn (c, 0, ()) nob) = true) {d : Nat} (hd : d < c.2.1.length) : ((spn (c, 0, ()) nob).getD d z0).1 + (many (spn (c, 0, ()) nob) d : Int) = ((spn (c, 0, ()) nob).getD d z0).2.1 + 1 := by
 have := spn_day c hv ha hd
 unfold many
 omega
theorem tops2 (c : Int × List Sp × Unit) (hv : Valid c) (ha : alive (spn (c, 0, ()) nob) = true) (S : List Int) : ∀ (e d : Nat), d + e = c.2.1.length → Ev fun k => T28_2 0 (numsL (mayTop (c, 0, ()) (spn (c, 0, ()) nob)) d).length c.2.1.length d S (some (c, 0, ())) c (some (c, 0, ())) (rowL (numsL (mayTop (c, 0, ()) (spn (c, 0, ()) nob)) d) c.2.1.length) k = some (S, numsL (mayTop (c, 0, ()) (spn (c, 0, ()) nob)) c.2.1.length, 0, ()) := by
 have hl := hv.l12
 intro e
 induction e with
 | zero =>
  intro d hd
  obtain rfl : d = c.2.1.length := by omega
  have hA := numsL_len (mayTop (c, 0, ()) (spn (c, 0, ()) nob)) c.2.1.length
  generalize hA' : numsL (mayTop (c, 0, ()) (spn (c, 0, ()) nob)) c.2.1.length = A at *
  refine U28_2 _ _ _ _ _ _ _ _ _ (Ev.eq (fun _ => Q28_2 _ _ _ _ _ _ _ _ _ _) ?_)
  have d5 : (A.length : Int) ≤ ((rowL A c.2.1.length).length : Int) := by rw [rowL_len (by omega)]; omega
  simp only [dec_f (show ¬ ((c.2.1.length : Int) < (c.2.1.length : Int)) by omega), dec_t (show (0 : Int) ≤ (A.length : Int) by omega), dec_t d5, Bool.and_self, cond_false, cond_true, Int.toNat_natCast]
  rw [take_row0]
  exact Ev.all fun _ => by first | rfl | trivial
 | succ e ih =>
  intro d hd
  have hA := numsL_len (mayTop (c, 0, ()) (spn (c, 0, ()) nob)) d
  have hday := spn_day c hv ha (d := d) (by omega)
  have hmany := many_eq c hv ha (d := d) (by omega)
  have hi := ih (d + 1) (by omega)
  rw [numsL_succ] at hi
  generalize hA' : numsL (mayTop (c, 0, ()) (spn (c, 0, ()) nob)) d = A at *
  generalize hR : numsL (mayTop (c, 0, ()) (spn (c, 0, ()) nob)) c.2.1.length = R at *
  refine U28_2 _ _ _ _ _ _ _ _ _ (Ev.eq (fun _ => Q28_2 _ _ _ _ _ _ _ _ _ _) ?_)
  rw [show ((-1, 0, ()) : Sp) = nob from rfl, L88 (c, 0, ()) 0 nob hv rfl (by decide) bd_nob]
  simp only [dec_t (show (d : Int) < (c.2.1.length : Int) by omega), dec_t (show (d : Int) ≥ 0 by omega), dec_t (show (d : Int) < 12 by omega), dec_t (show d < 12 by omega), Bool.and_self, cond_true, Option.bind_some, Int.toNat_natCast, out88]
  refine tops4 c hv d (by omega) _ A S hA _ hday.2.2 (many (spn (c, 0, ()) nob) d) ((spn (c, 0, ()) nob).getD d z0).1 (.inl hmany) hday.1 ?_
  unfold mayTop at hi
  cases hm : anyN (topM (c, 0, ()) d) (many (spn (c, 0, ()) nob) d) ((spn (c, 0, ()) nob).getD d z0).1 with
  | true =>
   simp only [hm, if_true] at hi ⊢
   exact hi
  | false =>
   simp only [hm, Bool.false_eq_true, if_false] at hi ⊢
   exact hi
theorem tops0 (c : Int × List Sp × Unit) (hv : Valid c) (ha : alive (spn (c, 0, ()) nob) = true) : ∀ (e d : Nat), d + e = c.2.1.length → Ev fun k => T28_0 0 (numsL (sureTop (c, 0, ()) (spn (c, 0, ()) nob)) d).length c.2.1.length d (some (c, 0, ())) c (some (c, 0, ())) (rowL (numsL (sureTop (c, 0, ()) (spn (c, 0, ()) nob)) d) c.2.1.length) k = some (numsL (sureTop (c, 0, ()) (spn (c, 0, ()) nob)) c.2.1.length, numsL (mayTop (c, 0, ()) (spn (c, 0, ()) nob)) c.2.1.length, 0, ()) := by
 have hl := hv.l12
 intro e
 induction e with
 | zero =>
  intro d hd
  obtain rfl : d = c.2.1.length := by omega
  have hA := numsL_len (sureTop (c, 0, ()) (spn (c, 0, ()) nob)) c.2.1.length
  generalize hA' : numsL (sureTop (c, 0, ()) (spn (c, 0, ()) nob)) c.2.1.length = A at *
  refine U28_0 _ _ _ _ _ _ _ _ (Ev.eq (fun _ => Q28_0 _ _ _ _ _ _ _ _ _) ?_)
  have d5 : (A.length : Int) ≤ ((rowL A c.2.1.length).length : Int) := by rw [rowL_len (by omega)]; omega
  simp only [dec_f (show ¬ ((c.2.1.length : Int) < (c.2.1.length : Int)) by omega), dec_t (show (0 : Int) ≤ (A.length : Int) by omega), dec_t d5, dec_t (show (0 : Int) ≤ (c.2.1.length : Int) by omega), dec_t (show (c.2.1.length : Int) ≤ 2147483648 by omega), Bool.and_self, cond_false, cond_true, Int.toNat_natCast, Option.bind_some]
  rw [take_row0]
  have := tops2 c hv ha A c.2.1.length 0 (by omega)
  exact this
 | succ e ih =>
  intro d hd
  have hA := numsL_len (sureTop (c, 0, ()) (spn (c, 0, ()) nob)) d
  have hday := spn_day c hv ha (d := d) (by omega)
  have hmany := many_eq c hv ha (d := d) (by omega)
  have hi := ih (d + 1) (by omega)
  rw [numsL_succ] at hi
  generalize hA' : numsL (sureTop (c, 0, ()) (spn (c, 0, ()) nob)) d = A at *
  generalize hR : numsL (sureTop (c, 0, ()) (spn (c, 0, ()) nob)) c.2.1.length = R at *
  refine U28_0 _ _ _ _ _ _ _ _ (Ev.eq (fun _ => Q28_0 _ _ _ _ _ _ _ _ _) ?_)
  rw [show ((-1, 0, ()) : Sp) = nob from rfl, L88 (c, 0, ()) 0 nob hv rfl (by decide) bd_nob]
  simp only [dec_t (show (d : Int) < (c.2.1.length : Int) by omega), dec_t (show (d : Int) ≥ 0 by omega), dec_t (show (d : Int) < 12 by omega), dec_t (show d < 12 by omega), Bool.and_self, cond_true, Option.bind_some, Int.toNat_natCast, out88]
  refine tops1 c hv d (by omega) _ A hA _ hday.2.2 (many (spn (c, 0, ()) nob) d) ((spn (c, 0, ()) nob).getD d z0).1 (.inl hmany) hday.1 ?_
  unfold sureTop at hi
  cases hm : allN (topS (c, 0, ()) d) (many (spn (c, 0, ()) nob) d) ((spn (c, 0, ()) nob).getD d z0).1 with
  | true =>
   simp only [hm, if_true] at hi ⊢
   exact hi
  | false =>
   simp only [hm, Bool.false_eq_true, if_false] at hi ⊢
   exact hi
def topsP (c : Int × List Sp × Unit) : List Int × List Int × Int × Unit :=
 if (ent c 0 0).2.1 ≠ 0 then ([], [], (ent c 0 0).2.1, ()) else (numsL (sureTop (c, 0, ()) (spn (c, 0, ()) nob)) c.2.1.length, numsL (mayTop (c, 0, ()) (spn (c, 0, ()) nob)) c.2.1.length, 0, ())
theorem L28 (c : Int × List Sp × Unit) : F28 ((c, ()) : (Int × List Sp × Unit) × Unit) = some (topsP c) := by
 refine ghost_eq (Ev.eq (fun _ => E28 _ _) ?_)
 rw [L87 c 0 0]
 simp only [Option.bind_some]
 unfold topsP
 by_cases h : (ent c 0 0).2.1 = 0
 ·have e1 : ((ent c 0 0).2.1 != 0) = false := by simp [h]
  obtain ⟨hc, _, _, _, _, ha, he⟩ := ent_ok h
  obtain ⟨hv, _⟩ := chk_ok hc
  have hl := hv.l12
  rw [if_neg (by simpa using h)]
  simp only [e1, cond_false]
  rw [he]
  simp only [Option.bind_some, dec_t (show (0 : Int) ≤ (c.2.1.length : Int) by omega), dec_t (show (c.2.1.length : Int) ≤ 2147483648 by omega), Bool.and_self, Int.toNat_natCast]
  have := tops0 c hv ha c.2.1.length 0 (by omega)
  exact this
 ·have e1 : ((ent c 0 0).2.1 != 0) = true := by simpa using h
  simp only [e1, cond_true]
  rw [if_pos (by simpa using h)]
  exact Ev.all fun _ => by first | rfl | trivial
end Go.Proofs.YtjigflnjgmgmnaaDoor
/- What Rises of package cloud comes to. Conditions: as each lemma states. -/
namespace Go.Proofs.YtjigflnjgmgmnaaDoor
open Go Go.Gh Go.Proofs
def riseS (m : Mo) (d : Nat) (n : Int) : Bool := !(alive (spn m (d, n, ())) && decide (((spn m (d, n, ())).getD (d - 1) z0).2.1 ≥ n))
def riseM (m : Mo) (d : Nat) (n : Int) : Bool := alive (spn m (d, n, ())) && decide (((spn m (d, n, ())).getD (d - 1) z0).1 < n)
def sureRise (m : Mo) (B : List Sp) (d : Nat) : Bool := decide (1 ≤ d) && allN (riseS m d) (many B d) (B.getD d z0).1
def mayRise (m : Mo) (B : List Sp) (d : Nat) : Bool := decide (1 ≤ d) && anyN (riseM m d) (many B d) (B.getD d z0).1
theorem rise1 (c : Int × List Sp × Unit) (hv : Valid c) (d : Nat) (hd1 : 1 ≤ d) (hd : d < c.2.1.length) (B : List Sp) (A : List Int) (hA : A.length ≤ d) (y : denL [(.slice (.int .i64)), (.slice (.int .i64)), (.int .i64)]) (hhi : (B.getD d z0).2.1 ≤ 100) : ∀ (e : Nat) (n : Int), (n + e = (B.getD d z0).2.1 + 1 ∨ e = 0 ∧ (B.getD d z0).2.1 < n) → 0 ≤ n →
  (if allN (riseS (c, 0, ()) d) e n = true then Ev fun k => T31_0 1 (A ++ [(d : Int)]).length c.2.1.length ((d + 1 : Nat) : Int) (some (c, 0, ())) (some (c, 0, ())) (rowL (A ++ [(d : Int)]) c.2.1.length) k = some y
    else Ev fun k => T31_0 1 A.length c.2.1.length ((d + 1 : Nat) : Int) (some (c, 0, ())) (some (c, 0, ())) (rowL A c.2.1.length) k = some y) →
  Ev fun k => T31_1 n 1 A.length d c.2.1.length d true d (some (c, 0, ())) (some (c, 0, ())) (rowL A c.2.1.length) d false (some (c, 0, ())) d B k = some y := by
 have hl := hv.l12
 have wd : IntKind.wrap IntKind.i64 ((d : Int) + 1) = ((d + 1 : Nat) : Int) := by rw [wrap_id (by omega) (by omega)]; omega
 have wm : IntKind.wrap IntKind.i64 ((d : Int) - 1) = ((d - 1 : Nat) : Int) := by rw [wrap_id (by omega) (by omega)]; omega
 have d1 : (0 : Int) ≤ (d : Int) := by omega
 have d2 : (d : Int) < 12 := by omega
 have d3 : d < 12 := by omega
 have d4 : (0 : Int) ≤ (A.length : Int) := by omega
 have d5 : (A.length : Int) ≤ ((rowL A c.2.1.length).length : Int) := by rw [rowL_len (by omega)]; omega
 have d6 : (0 : Int) ≤ ((d - 1 : Nat) : Int) := by omega
 have d7 : ((d - 1 : Nat) : Int) < 12 := by omega
 have d9 : d - 1 < 12 := by omega
 intro e
 induction e with
 | zero =>
  intro n hn h0 h
  refine U31_1 _ _ _ _ _ _ _ _ _ _ _ _ _ _ _ _ (Ev.eq (fun _ => Q31_1 _ _ _ _ _ _ _ _ _ _ _ _ _ _ _ _ _) ?_)
  simp only [allN, if_true] at h
  have d8 : ¬ (n ≤ (B.getD d (0, 0, ())).2.1) := by
   rw [show B.getD d (0, 0, ()) = B.getD d z0 from rfl]; omega
  simp only [dec_t d1, dec_t d2, dec_t d3, dec_t d4, dec_t d5, dec_f d8, Bool.and_self, cond_true, cond_false, Int.toNat_natCast, wd]
  simp only [one_set]
  rw [put_row A _ _ (by omega), put_cnt A _ _ (by omega) hl]
  exact h
 | succ e ih =>
  intro n hn h0 h
  refine U31_1 _ _ _ _ _ _ _ _ _ _ _ _ _ _ _ _ (Ev.eq (fun _ => Q31_1 _ _ _ _ _ _ _ _ _ _ _ _ _ _ _ _ _) ?_)
  have d8 : n ≤ (B.getD d (0, 0, ())).2.1 := by
   rw [show B.getD d (0, 0, ()) = B.getD d z0 from rfl]; omega
  have hn1 : n ≤ 100 := by omega
  have wn : IntKind.wrap IntKind.i64 (n + 1) = n + 1 := wrap_id (by omega) (by omega)
  have hs := L88 (c, 0, ()) 0 (d, n, ()) hv rfl (by decide) (bd_pt h0 hn1 d)
  simp only [dec_t d1, dec_t d2, dec_t d3, dec_t d8, wm, dec_t d6, dec_t d7, dec_t d9, Bool.and_self, cond_true, cond_false, Int.toNat_natCast, wn, wd]
  rw [hs]
  simp only [Option.bind_some, out88]
  simp only [allN] at h
  rw [show ((0, 0, ()) : Sp) = z0 from rfl]
  cases ha : alive (spn (c, 0, ()) (d, n, ())) with
  | false =>
   have ha' : decide (((spn (c, 0, ()) (d, n, ())).getD 0 z0).1 ≤ ((spn (c, 0, ()) (d, n, ())).getD 0 z0).2.1) = false := ha
   simp only [ha', cond_false]
   have ht : riseS (c, 0, ()) d n = true := by unfold riseS; rw [ha]; rfl
   simp only [ht, Bool.true_and] at h
   exact ih (n + 1) (by omega) (by omega) h
  | true =>
   have ha' : decide (((spn (c, 0, ()) (d, n, ())).getD 0 z0).1 ≤ ((spn (c, 0, ()) (d, n, ())).getD 0 z0).2.1) = true := ha
   simp only [ha', cond_true]
   by_cases hb : ((spn (c, 0, ()) (d, n, ())).getD (d - 1) z0).2.1 ≥ n
   ·have ht : riseS (c, 0, ()) d n = false := by unfold riseS; rw [ha, dec_t hb]; rfl
    simp only [ht, Bool.false_and, Bool.false_eq_true, if_false] at h
    simp only [dec_t hb, cond_true]
    exact h
   ·have ht : riseS (c, 0, ()) d n = true := by unfold riseS; rw [ha, dec_f hb]; rfl
    simp only [ht, Bool.true_and] at h
    simp only [dec_f hb, cond_false]
    exact ih (n + 1) (by omega) (by omega) h
theorem rise3 (c : Int × List Sp × Unit) (hv : Valid c) (d : Nat) (hd1 : 1 ≤ d) (hd : d < c.2.1.length) (B : List Sp) (A S : List Int) (hA : A.length ≤ d) (y : denL [(.slice (.int .i64)), (.slice (.int .i64)), (.int .i64)]) (hhi : (B.getD d z0).2.1 ≤ 100) : ∀ (e : Nat) (n : Int), (n + e = (B.getD d z0).2.1 + 1 ∨ e = 0 ∧ (B.getD d z0).2.1 < n) → 0 ≤ n →
  (if anyN (riseM (c, 0, ()) d) e n = true then Ev fun k => T31_2 1 (A ++ [(d : Int)]).length c.2.1.length ((d + 1 : Nat) : Int) S (some (c, 0, ())) (some (c, 0, ())) (rowL (A ++ [(d : Int)]) c.2.1.length) k = some y
    else Ev fun k => T31_2 1 A.length c.2.1.length ((d + 1 : Nat) : Int) S (some (c, 0, ())) (some (c, 0, ())) (rowL A c.2.1.length) k = some y) →
  Ev fun k => T31_3 n 1 A.length d c.2.1.length d true d S (some (c, 0, ())) (some (c, 0, ())) (rowL A c.2.1.length) d false (some (c, 0, ())) d B k = some y := by
 have hl := hv.l12
 have wd : IntKind.wrap IntKind.i64 ((d : Int) + 1) = ((d + 1 : Nat) : Int) := by rw [wrap_id (by omega) (by omega)]; omega
 have wm : IntKind.wrap IntKind.i64 ((d : Int) - 1) = ((d - 1 : Nat) : Int) := by rw [wrap_id (by omega) (by omega)]; omega
 have d1 : (0 : Int) ≤ (d : Int) := by omega
 have d2 : (d : Int) < 12 := by omega
 have d3 : d < 12 := by omega
 have d4 : (0 : Int) ≤ (A.length : Int) := by omega
 have d5 : (A.length : Int) ≤ ((rowL A c.2.1.length).length : Int) := by rw [rowL_len (by omega)]; omega
 have d6 : (0 : Int) ≤ ((d - 1 : Nat) : Int) := by omega
 have d7 : ((d - 1 : Nat) : Int) < 12 := by omega
 have d9 : d - 1 < 12 := by omega
 intro e
 induction e with
 | zero =>
  intro n hn h0 h
  refine U31_3 _ _ _ _ _ _ _ _ _ _ _ _ _ _ _ _ _ (Ev.eq (fun _ => Q31_3 _ _ _ _ _ _ _ _ _ _ _ _ _ _ _ _ _ _) ?_)
  simp only [anyN, Bool.false_eq_true, if_false] at h
  have d8 : ¬ (n ≤ (B.getD d (0, 0, ())).2.1) := by
   rw [show B.getD d (0, 0, ()) = B.getD d z0 from rfl]; omega
  simp only [dec_t d1, dec_t d2, dec_t d3, dec_f d8, Bool.and_self, cond_true, cond_false, Int.toNat_natCast, wd]
  exact h
 | succ e ih =>
  intro n hn h0 h
  refine U31_3 _ _ _ _ _ _ _ _ _ _ _ _ _ _ _ _ _ (Ev.eq (fun _ => Q31_3 _ _ _ _ _ _ _ _ _ _ _ _ _ _ _ _ _ _) ?_)
  have d8 : n ≤ (B.getD d (0, 0, ())).2.1 := by
   rw [show B.getD d (0, 0, ()) = B.getD d z0 from rfl]; omega
  have hn1 : n ≤ 100 := by omega
  have wn : IntKind.wrap IntKind.i64 (n + 1) = n + 1 := wrap_id (by omega) (by omega)
  have hs := L88 (c, 0, ()) 0 (d, n, ()) hv rfl (by decide) (bd_pt h0 hn1 d)
  simp only [dec_t d1, dec_t d2, dec_t d3, dec_t d4, dec_t d5, dec_t d8, wm, dec_t d6, dec_t d7, dec_t d9, Bool.and_self, cond_true, cond_false, Int.toNat_natCast, wn, wd]
  rw [hs]
  simp only [Option.bind_some, out88]
  simp only [anyN] at h
  rw [show ((0, 0, ()) : Sp) = z0 from rfl]
  cases ha : alive (spn (c, 0, ()) (d, n, ())) with
  | false =>
   have ha' : decide (((spn (c, 0, ()) (d, n, ())).getD 0 z0).1 ≤ ((spn (c, 0, ()) (d, n, ())).getD 0 z0).2.1) = false := ha
   simp only [ha', cond_false]
   have ht : riseM (c, 0, ()) d n = false := by unfold riseM; rw [ha]; rfl
   simp only [ht, Bool.false_or] at h
   exact ih (n + 1) (by omega) (by omega) h
  | true =>
   have ha' : decide (((spn (c, 0, ()) (d, n, ())).getD 0 z0).1 ≤ ((spn (c, 0, ()) (d, n, ())).getD 0 z0).2.1) = true := ha
   simp only [ha', cond_true]
   by_cases hb : ((spn (c, 0, ()) (d, n, ())).getD (d - 1) z0).1 < n
   ·have ht : riseM (c, 0, ()) d n = true := by unfold riseM; rw [ha, dec_t hb]; rfl
    simp only [ht, Bool.true_or, if_true] at h
    simp only [dec_t hb, cond_true]
    simp only [one_set]
    rw [put_row A _ _ (by omega), put_cnt A _ _ (by omega) hl]
    exact h
   ·have ht : riseM (c, 0, ()) d n = false := by unfold riseM; rw [ha, dec_f hb]; rfl
    simp only [ht, Bool.false_or] at h
    simp only [dec_f hb, cond_false]
    exact ih (n + 1) (by omega) (by omega) h
theorem rise2 (c : Int × List Sp × Unit) (hv : Valid c) (ha : alive (spn (c, 0, ()) nob) = true) (S : List Int) : ∀ (e d : Nat), d + e = c.2.1.length → Ev fun k => T31_2 1 (numsL (mayRise (c, 0, ()) (spn (c, 0, ()) nob)) d).length c.2.1.length d S (some (c, 0, ())) (some (c, 0, ())) (rowL (numsL (mayRise (c, 0, ()) (spn (c, 0, ()) nob)) d) c.2.1.length) k = some (S, numsL (mayRise (c, 0, ()) (spn (c, 0, ()) nob)) c.2.1.length, 0, ()) := by
 have hl := hv.l12
 intro e
 induction e with
 | zero =>
  intro d hd
  obtain rfl : d = c.2.1.length := by omega
  have hA := numsL_len (mayRise (c, 0, ()) (spn (c, 0, ()) nob)) c.2.1.length
  generalize hA' : numsL (mayRise (c, 0, ()) (spn (c, 0, ()) nob)) c.2.1.length = A at *
  refine U31_2 _ _ _ _ _ _ _ _ (Ev.eq (fun _ => Q31_2 _ _ _ _ _ _ _ _ _) ?_)
  have d5 : (A.length : Int) ≤ ((rowL A c.2.1.length).length : Int) := by rw [rowL_len (by omega)]; omega
  simp only [dec_f (show ¬ ((c.2.1.length : Int) < (c.2.1.length : Int)) by omega), dec_t (show (0 : Int) ≤ (A.length : Int) by omega), dec_t d5, Bool.and_self, cond_false, cond_true, Int.toNat_natCast]
  rw [take_row0]
  exact Ev.all fun _ => by first | rfl | trivial
 | succ e ih =>
  intro d hd
  have hA := numsL_len (mayRise (c, 0, ()) (spn (c, 0, ()) nob)) d
  have hday := spn_day c hv ha (d := d) (by omega)
  have hmany := many_eq c hv ha (d := d) (by omega)
  have hi := ih (d + 1) (by omega)
  rw [numsL_succ] at hi
  generalize hA' : numsL (mayRise (c, 0, ()) (spn (c, 0, ()) nob)) d = A at *
  generalize hR : numsL (mayRise (c, 0, ()) (spn (c, 0, ()) nob)) c.2.1.length = R at *
  refine U31_2 _ _ _ _ _ _ _ _ (Ev.eq (fun _ => Q31_2 _ _ _ _ _ _ _ _ _) ?_)
  have wd : IntKind.wrap IntKind.i64 ((d : Int) + 1) = ((d + 1 : Nat) : Int) := by rw [wrap_id (by omega) (by omega)]; omega
  unfold mayRise at hi
  by_cases h1 : 1 ≤ d
  ·rw [show ((-1, 0, ()) : Sp) = nob from rfl, L88 (c, 0, ()) 0 nob hv rfl (by decide) bd_nob]
   simp only [dec_t (show (d : Int) < (c.2.1.length : Int) by omega), dec_t (show (d : Int) ≥ 1 by omega), dec_t (show (0 : Int) ≤ (d : Int) by omega), dec_t (show (d : Int) < 12 by omega), dec_t (show d < 12 by omega), Bool.and_self, cond_true, Option.bind_some, Int.toNat_natCast, out88]
   refine rise3 c hv d h1 (by omega) _ A S hA _ hday.2.2 (many (spn (c, 0, ()) nob) d) ((spn (c, 0, ()) nob).getD d z0).1 (.inl hmany) hday.1 ?_
   rw [dec_t h1] at hi
   cases hm : anyN (riseM (c, 0, ()) d) (many (spn (c, 0, ()) nob) d) ((spn (c, 0, ()) nob).getD d z0).1 with
   | true =>
    simp only [hm, Bool.and_true, if_true] at hi ⊢
    exact hi
   | false =>
    simp only [hm, Bool.and_false, Bool.false_eq_true, if_false] at hi ⊢
    exact hi
  ·rw [dec_f h1] at hi
   simp only [Bool.false_and, Bool.false_eq_true, if_false] at hi
   simp only [dec_t (show (d : Int) < (c.2.1.length : Int) by omega), dec_f (show ¬ ((d : Int) ≥ 1) by omega), cond_true, cond_false, wd]
   exact hi
theorem rise0 (c : Int × List Sp × Unit) (hv : Valid c) (ha : alive (spn (c, 0, ()) nob) = true) : ∀ (e d : Nat), d + e = c.2.1.length → Ev fun k => T31_0 1 (numsL (sureRise (c, 0, ()) (spn (c, 0, ()) nob)) d).length c.2.1.length d (some (c, 0, ())) (some (c, 0, ())) (rowL (numsL (sureRise (c, 0, ()) (spn (c, 0, ()) nob)) d) c.2.1.length) k = some (numsL (sureRise (c, 0, ()) (spn (c, 0, ()) nob)) c.2.1.length, numsL (mayRise (c, 0, ()) (spn (c, 0, ()) nob)) c.2.1.length, 0, ()) := by
 have hl := hv.l12
 intro e
 induction e with
 | zero =>
  intro d hd
  obtain rfl : d = c.2.1.length := by omega
  have hA := numsL_len (sureRise (c, 0, ()) (spn (c, 0, ()) nob)) c.2.1.length
  generalize hA' : numsL (sureRise (c, 0, ()) (spn (c, 0, ()) nob)) c.2.1.length = A at *
  refine U31_0 _ _ _ _ _ _ _ (Ev.eq (fun _ => Q31_0 _ _ _ _ _ _ _ _) ?_)
  have d5 : (A.length : Int) ≤ ((rowL A c.2.1.length).length : Int) := by rw [rowL_len (by omega)]; omega
  simp only [dec_f (show ¬ ((c.2.1.length : Int) < (c.2.1.length : Int)) by omega), dec_t (show (0 : Int) ≤ (A.length : Int) by omega), dec_t d5, dec_t (show (0 : Int) ≤ (c.2.1.length : Int) by omega), dec_t (show (c.2.1.length : Int) ≤ 2147483648 by omega), Bool.and_self, cond_false, cond_true, Int.toNat_natCast, Option.bind_some]
  rw [take_row0]
  have := rise2 c hv ha A c.2.1.length 0 (by omega)
  exact this
 | succ e ih =>
  intro d hd
  have hA := numsL_len (sureRise (c, 0, ()) (spn (c, 0, ()) nob)) d
  have hday := spn_day c hv ha (d := d) (by omega)
  have hmany := many_eq c hv ha (d := d) (by omega)
  have hi := ih (d + 1) (by omega)
  rw [numsL_succ] at hi
  generalize hA' : numsL (sureRise (c, 0, ()) (spn (c, 0, ()) nob)) d = A at *
  generalize hR : numsL (sureRise (c, 0, ()) (spn (c, 0, ()) nob)) c.2.1.length = R at *
  refine U31_0 _ _ _ _ _ _ _ (Ev.eq (fun _ => Q31_0 _ _ _ _ _ _ _ _) ?_)
  have wd : IntKind.wrap IntKind.i64 ((d : Int) + 1) = ((d + 1 : Nat) : Int) := by rw [wrap_id (by omega) (by omega)]; omega
  unfold sureRise at hi
  by_cases h1 : 1 ≤ d
  ·rw [show ((-1, 0, ()) : Sp) = nob from rfl, L88 (c, 0, ()) 0 nob hv rfl (by decide) bd_nob]
   simp only [dec_t (show (d : Int) < (c.2.1.length : Int) by omega), dec_t (show (d : Int) ≥ 1 by omega), dec_t (show (0 : Int) ≤ (d : Int) by omega), dec_t (show (d : Int) < 12 by omega), dec_t (show d < 12 by omega), Bool.and_self, cond_true, Option.bind_some, Int.toNat_natCast, out88]
   refine rise1 c hv d h1 (by omega) _ A hA _ hday.2.2 (many (spn (c, 0, ()) nob) d) ((spn (c, 0, ()) nob).getD d z0).1 (.inl hmany) hday.1 ?_
   rw [dec_t h1] at hi
   cases hm : allN (riseS (c, 0, ()) d) (many (spn (c, 0, ()) nob) d) ((spn (c, 0, ()) nob).getD d z0).1 with
   | true =>
    simp only [hm, Bool.and_true, if_true] at hi ⊢
    exact hi
   | false =>
    simp only [hm, Bool.and_false, Bool.false_eq_true, if_false] at hi ⊢
    exact hi
  ·rw [dec_f h1] at hi
   simp only [Bool.false_and, Bool.false_eq_true, if_false] at hi
   simp only [dec_t (show (d : Int) < (c.2.1.length : Int) by omega), dec_f (show ¬ ((d : Int) ≥ 1) by omega), cond_true, cond_false, wd]
   exact hi
def risesP (c : Int × List Sp × Unit) : List Int × List Int × Int × Unit :=
 if (ent c 0 0).2.1 ≠ 0 then ([], [], (ent c 0 0).2.1, ()) else (numsL (sureRise (c, 0, ()) (spn (c, 0, ()) nob)) c.2.1.length, numsL (mayRise (c, 0, ()) (spn (c, 0, ()) nob)) c.2.1.length, 0, ())
theorem L31 (c : Int × List Sp × Unit) : F31 ((c, ()) : (Int × List Sp × Unit) × Unit) = some (risesP c) := by
 refine ghost_eq (Ev.eq (fun _ => E31 _ _) ?_)
 rw [L87 c 0 0]
 simp only [Option.bind_some]
 unfold risesP
 by_cases h : (ent c 0 0).2.1 = 0
 ·have e1 : ((ent c 0 0).2.1 != 0) = false := by simp [h]
  obtain ⟨hc, _, _, _, _, ha, he⟩ := ent_ok h
  obtain ⟨hv, _⟩ := chk_ok hc
  have hl := hv.l12
  rw [if_neg (by simpa using h)]
  simp only [e1, cond_false]
  rw [he]
  simp only [Option.bind_some, dec_t (show (0 : Int) ≤ (c.2.1.length : Int) by omega), dec_t (show (c.2.1.length : Int) ≤ 2147483648 by omega), Bool.and_self, Int.toNat_natCast]
  have := rise0 c hv ha c.2.1.length 0 (by omega)
  exact this
 ·have e1 : ((ent c 0 0).2.1 != 0) = true := by simpa using h
  simp only [e1, cond_true]
  rw [if_pos (by simpa using h)]
  exact Ev.all fun _ => by first | rfl | trivial
end Go.Proofs.YtjigflnjgmgmnaaDoor
/- What Ask, Month and Told of package cloud come to. Conditions: as each lemma states. -/
namespace Go.Proofs.YtjigflnjgmgmnaaDoor
open Go Go.Gh Go.Proofs
theorem sumS_bd : ∀ (l : List Sp) (s : Sp), (∀ x ∈ l, Bd1 x) → s.1 - 200 * (l.length : Int) ≤ (sumS l s).1 ∧ (sumS l s).1 ≤ s.1 + 200 * (l.length : Int) ∧ s.2.1 - 200 * (l.length : Int) ≤ (sumS l s).2.1 ∧ (sumS l s).2.1 ≤ s.2.1 + 200 * (l.length : Int)
 | [], s, h => by simp only [sumS, List.length_nil]; omega
 | x :: l, s, h => by
  have hx := h x (List.mem_cons_self ..)
  have := sumS_bd l (s.1 + x.1, s.2.1 + x.2.1, ()) (fun y hy => h y (List.mem_cons_of_mem _ hy))
  unfold Bd1 at hx
  simp only [sumS, List.length_cons] at this ⊢
  omega
theorem sums_bd (m : Mo) (t : Sp) (hv : Valid m.1) (ht : Bd1 (sp t.2.1 t.2.1)) : -2400 ≤ (sums m t).1 ∧ (sums m t).1 ≤ 2400 ∧ -2400 ≤ (sums m t).2.1 ∧ (sums m t).2.1 ≤ 2400 := by
 have hl := hv.l12
 have hbd := spn_bd m t hv ht
 have := sumS_bd ((spn m t).take m.1.2.1.length) z0 (fun x hx => by
  have hx := List.mem_of_mem_take hx
  obtain ⟨i, hi, rfl⟩ := List.mem_iff_getElem.1 hx
  have := hbd.2 i
  simpa [List.getD_eq_getElem?_getD, hi] using this)
 have hlen : ((spn m t).take m.1.2.1.length).length ≤ 12 := by rw [List.length_take]; omega
 unfold sums
 simp only [z0] at this ⊢
 omega
def apartP (m : Mo) (t : Sp) : Int := (sums m t).2.1 - (sums m t).1
theorem L106 (m : Mo) (b : Nat) (t : Sp) (hv : Valid m.1) (hm : m.2.1 = b) (hb : b < 4096) (ht : Bd1 (sp t.2.1 t.2.1)) : F106 ((some m, t, ()) : Option Mo × Sp × Unit) = some (apartP m t, ()) := by
 refine ghost_eq (Ev.eq (fun _ => E106 _ _ _) ?_)
 rw [L127 m b t hv hm hb ht]
 have := sums_bd m t hv ht
 simp only [Option.bind_some]
 rw [wrap_id (by omega) (by omega)]
 exact Ev.all fun _ => by first | rfl | trivial
def mostN (m : Mo) (d : Nat) : Nat → Int → Int → Int
 | 0, _, a => a
 | e + 1, n, a => mostN m d e (n + 1) (if alive (spn m (d, n, ())) = true then (if apartP m (d, n, ()) > a then apartP m (d, n, ()) else a) else a)
def askN (m : Mo) (B : List Sp) : Nat → Nat → Int → Int → Int × Int
 | 0, _, day, left => (day, left)
 | e + 1, d, day, left => if mostN m d (many B d) (B.getD d z0).1 0 < left then askN m B e (d + 1) d (mostN m d (many B d) (B.getD d z0).1 0) else askN m B e (d + 1) day left
theorem ask1 (c : Int × List Sp × Unit) (hv : Valid c) (y : denL [(.int .i64), (.int .i64), (.int .i64)]) (d : Nat) (hd : d < c.2.1.length) (B : List Sp) (day left all : Int) (hhi : (B.getD d z0).2.1 ≤ 100) : ∀ (e : Nat) (n a : Int), (n + e = (B.getD d z0).2.1 + 1 ∨ e = 0 ∧ (B.getD d z0).2.1 < n) → 0 ≤ n →
  (if mostN (c, 0, ()) d e n a < left then Ev fun k => T33_0 d (mostN (c, 0, ()) d e n a) (some (c, 0, ())) all c.2.1.length ((d + 1 : Nat) : Int) (some (c, 0, ())) k = some y
    else Ev fun k => T33_0 day left (some (c, 0, ())) all c.2.1.length ((d + 1 : Nat) : Int) (some (c, 0, ())) k = some y) →
  Ev fun k => T33_1 n day left (some (c, 0, ())) all c.2.1.length d (some (c, 0, ())) d a (some (c, 0, ())) d B k = some y := by
 have hl := hv.l12
 have wd : IntKind.wrap IntKind.i64 ((d : Int) + 1) = ((d + 1 : Nat) : Int) := by rw [wrap_id (by omega) (by omega)]; omega
 have d1 : (0 : Int) ≤ (d : Int) := by omega
 have d2 : (d : Int) < 12 := by omega
 have d3 : d < 12 := by omega
 intro e
 induction e with
 | zero =>
  intro n a hn h0 h
  refine U33_1 _ _ _ _ _ _ _ _ _ _ _ _ _ (Ev.eq (fun _ => Q33_1 _ _ _ _ _ _ _ _ _ _ _ _ _ _) ?_)
  change (if a < left then _ else _) at h
  have d8 : ¬ (n ≤ (B.getD d (0, 0, ())).2.1) := by
   rw [show B.getD d (0, 0, ()) = B.getD d z0 from rfl]; omega
  simp only [dec_t d1, dec_t d2, dec_t d3, dec_f d8, Bool.and_self, cond_true, cond_false, Int.toNat_natCast, wd]
  by_cases hb : a < left
  ·rw [if_pos hb] at h
   simp only [dec_t hb, cond_true]
   exact h
  ·rw [if_neg hb] at h
   simp only [dec_f hb, cond_false]
   exact h
 | succ e ih =>
  intro n a hn h0 h
  refine U33_1 _ _ _ _ _ _ _ _ _ _ _ _ _ (Ev.eq (fun _ => Q33_1 _ _ _ _ _ _ _ _ _ _ _ _ _ _) ?_)
  have d8 : n ≤ (B.getD d (0, 0, ())).2.1 := by
   rw [show B.getD d (0, 0, ()) = B.getD d z0 from rfl]; omega
  have hn1 : n ≤ 100 := by omega
  have wn : IntKind.wrap IntKind.i64 (n + 1) = n + 1 := wrap_id (by omega) (by omega)
  have hs := L88 (c, 0, ()) 0 (d, n, ()) hv rfl (by decide) (bd_pt h0 hn1 d)
  have hp := L106 (c, 0, ()) 0 (d, n, ()) hv rfl (by decide) (bd_pt h0 hn1 d)
  simp only [dec_t d1, dec_t d2, dec_t d3, dec_t d8, Bool.and_self, cond_true, Int.toNat_natCast, wn]
  rw [hs, hp]
  simp only [Option.bind_some, out88]
  simp only [mostN] at h
  cases ha : alive (spn (c, 0, ()) (d, n, ())) with
  | false =>
   have ha' : decide (((spn (c, 0, ()) (d, n, ())).getD 0 z0).1 ≤ ((spn (c, 0, ()) (d, n, ())).getD 0 z0).2.1) = false := ha
   simp only [ha', cond_false]
   simp only [ha, Bool.false_eq_true, if_false] at h
   exact ih (n + 1) a (by omega) (by omega) h
  | true =>
   have ha' : decide (((spn (c, 0, ()) (d, n, ())).getD 0 z0).1 ≤ ((spn (c, 0, ()) (d, n, ())).getD 0 z0).2.1) = true := ha
   simp only [ha', cond_true]
   simp only [ha, if_true] at h
   exact ih (n + 1) _ (by omega) (by omega) h
theorem ask0 (c : Int × List Sp × Unit) (hv : Valid c) (y : denL [(.int .i64), (.int .i64), (.int .i64)]) (ha : alive (spn (c, 0, ()) nob) = true) (all : Int) (hy : ∀ r : Int × Int, r = askN (c, 0, ()) (spn (c, 0, ()) nob) c.2.1.length 0 0 all → y = if r.2 = all then (0, 0, 9, ()) else (r.1, r.2, 0, ())) : ∀ (e d : Nat) (day left : Int), d + e = c.2.1.length → askN (c, 0, ()) (spn (c, 0, ()) nob) e d day left = askN (c, 0, ()) (spn (c, 0, ()) nob) c.2.1.length 0 0 all →
  Ev fun k => T33_0 day left (some (c, 0, ())) all c.2.1.length d (some (c, 0, ())) k = some y := by
 have hl := hv.l12
 intro e
 induction e with
 | zero =>
  intro d day left hd h
  simp only [askN] at h
  have hy' := hy _ h
  refine U33_0 _ _ _ _ _ _ _ (Ev.eq (fun _ => Q33_0 _ _ _ _ _ _ _ _) ?_)
  simp only [dec_f (show ¬ ((d : Int) < (c.2.1.length : Int)) by omega), cond_false]
  rw [hy']
  by_cases hb : left = all
  ·have : (left == all) = true := by simpa using hb
   simp only [this, cond_true, if_pos hb]
   exact Ev.all fun _ => by first | rfl | trivial
  ·have : (left == all) = false := by simpa using hb
   simp only [this, cond_false, if_neg hb]
   exact Ev.all fun _ => by first | rfl | trivial
 | succ e ih =>
  intro d day left hd h
  have hday := spn_day c hv ha (d := d) (by omega)
  have hmany := many_eq c hv ha (d := d) (by omega)
  refine U33_0 _ _ _ _ _ _ _ (Ev.eq (fun _ => Q33_0 _ _ _ _ _ _ _ _) ?_)
  rw [show ((-1, 0, ()) : Sp) = nob from rfl, L88 (c, 0, ()) 0 nob hv rfl (by decide) bd_nob]
  have d2 : (d : Int) < 12 := by omega
  simp only [dec_t (show (d : Int) < (c.2.1.length : Int) by omega), dec_t (show (0 : Int) ≤ (d : Int) by omega), dec_t d2, dec_t (show d < 12 by omega), Bool.and_self, cond_true, Option.bind_some, Int.toNat_natCast, out88]
  refine ask1 c hv y d (by omega) _ day left all hday.2.2 (many (spn (c, 0, ()) nob) d) ((spn (c, 0, ()) nob).getD d z0).1 0 (.inl hmany) hday.1 ?_
  simp only [askN] at h
  by_cases hb : mostN (c, 0, ()) d (many (spn (c, 0, ()) nob) d) ((spn (c, 0, ()) nob).getD d z0).1 0 < left
  ·simp only [if_pos hb] at h ⊢
   exact ih (d + 1) _ _ (by omega) h
  ·simp only [if_neg hb] at h ⊢
   exact ih (d + 1) _ _ (by omega) h
def askP (c : Int × List Sp × Unit) : Int × Int × Int × Unit :=
 if (ent c 0 0).2.1 ≠ 0 then (0, 0, (ent c 0 0).2.1, ()) else
  if (askN (c, 0, ()) (spn (c, 0, ()) nob) c.2.1.length 0 0 (apartP (c, 0, ()) nob)).2 = apartP (c, 0, ()) nob then (0, 0, 9, ())
  else ((askN (c, 0, ()) (spn (c, 0, ()) nob) c.2.1.length 0 0 (apartP (c, 0, ()) nob)).1, (askN (c, 0, ()) (spn (c, 0, ()) nob) c.2.1.length 0 0 (apartP (c, 0, ()) nob)).2, 0, ())
theorem L33 (c : Int × List Sp × Unit) : F33 ((c, ()) : (Int × List Sp × Unit) × Unit) = some (askP c) := by
 refine ghost_eq (Ev.eq (fun _ => E33 _ _) ?_)
 rw [L87 c 0 0]
 simp only [Option.bind_some]
 unfold askP
 by_cases h : (ent c 0 0).2.1 = 0
 ·have e1 : ((ent c 0 0).2.1 != 0) = false := by simp [h]
  obtain ⟨hc, _, _, _, _, ha, he⟩ := ent_ok h
  obtain ⟨hv, _⟩ := chk_ok hc
  rw [if_neg (by simpa using h)]
  simp only [e1, cond_false]
  rw [he, show ((-1, 0, ()) : Sp) = nob from rfl]
  simp only
  rw [L106 (c, 0, ()) 0 nob hv rfl (by decide) bd_nob]
  simp only [Option.bind_some]
  exact ask0 c hv _ ha (apartP (c, 0, ()) nob) (fun r hr => by rw [hr]) c.2.1.length 0 0 _ (by omega) rfl
 ·have e1 : ((ent c 0 0).2.1 != 0) = true := by simpa using h
  simp only [e1, cond_true]
  rw [if_pos (by simpa using h)]
  exact Ev.all fun _ => by first | rfl | trivial
theorem sums_nat (m : Mo) (t : Sp) (hv : Valid m.1) (ht : Bd1 (sp t.2.1 t.2.1)) (ha : alive (spn m t) = true) : 0 ≤ (sums m t).1 ∧ 0 ≤ (sums m t).2.1 := by
 obtain ⟨s1, s2⟩ := spn_char m t hv ht
 obtain ⟨t1, t2⟩ := s1 ha
 have hbd := spn_bd m t hv ht
 have hl := hv.l12
 have := sumS_nat ((spn m t).take m.1.2.1.length) z0 (fun x hx => by
  obtain ⟨i, hi, rfl⟩ := List.mem_iff_getElem.1 hx
  rw [List.length_take] at hi
  have h1 := t1.own i (by omega)
  have h2 := t2.own i (by omega)
  have h3 := own_range _ _ hv h1.1 h1.2
  have h4 := own_range _ _ hv h2.1 h2.2
  have e : ((spn m t).take m.1.2.1.length)[i]'(by rw [List.length_take]; omega) = (spn m t).getD i z0 := by
   rw [List.getElem_take, List.getD_eq_getElem?_getD, List.getElem?_eq_getElem (by omega)]; rfl
  rw [e]
  simp only [lows, highs] at h3 h4
  omega) (by decide) (by decide)
 unfold sums
 omega
def monthP (c : Int × List Sp × Unit) : Sp × Sp × Int × Unit :=
 if (ent c 0 0).2.1 ≠ 0 then (z0, z0, (ent c 0 0).2.1, ()) else ((overP (c, 0, ()) nob).1, (overP (c, 0, ()) nob).2.1, 0, ())
theorem L23 (c : Int × List Sp × Unit) : F23 ((c, ()) : (Int × List Sp × Unit) × Unit) = some (monthP c) := by
 refine ghost_eq (Ev.eq (fun _ => E23 _ _) ?_)
 rw [L87 c 0 0]
 simp only [Option.bind_some]
 unfold monthP
 by_cases h : (ent c 0 0).2.1 = 0
 ·have e1 : ((ent c 0 0).2.1 != 0) = false := by simp [h]
  obtain ⟨hc, _, _, _, _, ha, he⟩ := ent_ok h
  obtain ⟨hv, _⟩ := chk_ok hc
  rw [if_neg (by simpa using h)]
  simp only [e1, cond_false]
  rw [he, show ((-1, 0, ()) : Sp) = nob from rfl]
  simp only
  have hn := sums_nat (c, 0, ()) nob hv bd_nob ha
  have hb := sums_bd (c, 0, ()) nob hv bd_nob
  rw [L92 (c, 0, ()) 0 nob hv rfl (by decide) bd_nob hn.1 (by omega) hn.2 (by omega)]
  exact Ev.all fun _ => by first | rfl | trivial
 ·have e1 : ((ent c 0 0).2.1 != 0) = true := by simpa using h
  simp only [e1, cond_true]
  rw [if_pos (by simpa using h)]
  exact Ev.all fun _ => by first | rfl | trivial
def toldP (c : Int × List Sp × Unit) (day number : Int) : Sp × Sp × Int × Unit :=
 if (ent c day number).2.1 ≠ 0 then (z0, z0, (ent c day number).2.1, ()) else
  if alive (spn (c, 0, ()) (day, number, ())) = true then ((overP (c, 0, ()) (day, number, ())).1, (overP (c, 0, ()) (day, number, ())).2.1, 0, ()) else (z0, z0, 9, ())
theorem L25 (c : Int × List Sp × Unit) (day number : Int) : F25 ((c, day, number, ()) : (Int × List Sp × Unit) × Int × Int × Unit) = some (toldP c day number) := by
 refine ghost_eq (Ev.eq (fun _ => E25 _ _ _ _) ?_)
 rw [L87 c day number]
 simp only [Option.bind_some]
 unfold toldP
 by_cases h : (ent c day number).2.1 = 0
 ·have e1 : ((ent c day number).2.1 != 0) = false := by simp [h]
  obtain ⟨hc, _, _, h0, h1, ha, he⟩ := ent_ok h
  obtain ⟨hv, _⟩ := chk_ok hc
  have hbt : Bd1 (sp ((day, number, ()) : Sp).2.1 ((day, number, ()) : Sp).2.1) := by unfold Bd1 sp; simp only; omega
  rw [if_neg (by simpa using h)]
  simp only [e1, cond_false]
  rw [he]
  simp only
  rw [L88 (c, 0, ()) 0 (day, number, ()) hv rfl (by decide) hbt]
  simp only [Option.bind_some, out88]
  cases ha2 : alive (spn (c, 0, ()) (day, number, ())) with
  | true =>
   have ha' : decide (((spn (c, 0, ()) (day, number, ())).getD 0 z0).1 ≤ ((spn (c, 0, ()) (day, number, ())).getD 0 z0).2.1) = true := ha2
   have hn := sums_nat (c, 0, ()) (day, number, ()) hv hbt ha2
   have hb := sums_bd (c, 0, ()) (day, number, ()) hv hbt
   rw [L92 (c, 0, ()) 0 (day, number, ()) hv rfl (by decide) hbt hn.1 (by omega) hn.2 (by omega)]
   simp only [ha', Bool.not_true, cond_false, Option.bind_some]
   exact Ev.all fun _ => by first | rfl | trivial
  | false =>
   have ha' : decide (((spn (c, 0, ()) (day, number, ())).getD 0 z0).1 ≤ ((spn (c, 0, ()) (day, number, ())).getD 0 z0).2.1) = false := ha2
   simp only [ha', Bool.not_false, cond_true]
   exact Ev.all fun _ => by first | rfl | trivial
 ·have e1 : ((ent c day number).2.1 != 0) = true := by simpa using h
  simp only [e1, cond_true]
  rw [if_pos (by simpa using h)]
  exact Ev.all fun _ => by first | rfl | trivial
end Go.Proofs.YtjigflnjgmgmnaaDoor
/- What Wrong of package cloud comes to. Conditions: as each lemma states. -/
namespace Go.Proofs.YtjigflnjgmgmnaaDoor
open Go Go.Gh Go.Proofs
theorem L138 (n : Int) : F138 ((n, ()) : Int × Unit) = some (false, ()) := by
 refine ghost_eq (Ev.eq (fun _ => E138 _ _) (Ev.all fun _ => ?_))
 simp
def cmp1 (a b : Int) : Int := if a < b then -1 else if a > b then 1 else 0
theorem L132 (a b : Int) : F132 ((a, b, ()) : Int × Int × Unit) = some (cmp1 a b, ()) := by
 refine ghost_eq (Ev.eq (fun _ => E132 _ _ _) ?_)
 rw [L138, L138]
 simp only [Option.bind_some, cond_false]
 unfold cmp1
 by_cases h1 : a < b
 ·simp only [dec_t h1, cond_true, if_pos h1]; exact Ev.all fun _ => by first | rfl | trivial
 ·simp only [dec_f h1, cond_false, if_neg h1]
  by_cases h2 : a > b
  ·simp only [dec_t h2, cond_true, if_pos h2]; exact Ev.all fun _ => by first | rfl | trivial
  ·simp only [dec_f h2, cond_false, if_neg h2]; exact Ev.all fun _ => by first | rfl | trivial
def cmpP : List Int → List Int → Int
 | [], [] => 0
 | [], _ :: _ => -1
 | _ :: _, [] => 1
 | a :: r, b :: q => if cmp1 a b ≠ 0 then cmp1 a b else cmpP r q
theorem L109 (l p : List Int) (_ : l.length < 1000000) (hp : p.length < 1000000) : F109 ((l, p, ()) : List Int × List Int × Unit) = some (cmpP l p, ()) := by
 refine ghost_eq (Ev.eq (fun _ => E109 _ _ _) ?_)
 have key : ∀ (e i : Nat), i + e = l.length → i ≤ p.length → Ev fun f => T109_0 l p l l.length i f = some (cmpP (l.drop i) (p.drop i), ()) := by
  intro e
  induction e with
  | zero =>
   intro i hi hip
   refine U109_0 _ _ _ _ _ (Ev.eq (fun _ => Q109_0 _ _ _ _ _ _) ?_)
   rw [List.drop_eq_nil_of_le (show l.length ≤ i by omega)]
   simp only [dec_f (show ¬ ((i : Int) < (l.length : Int)) by omega), cond_false]
   by_cases h : l.length < p.length
   ·have hlt : i < p.length := by omega
    rw [List.drop_eq_getElem_cons hlt]
    simp only [dec_t (show (l.length : Int) < (p.length : Int) by omega), cond_true, cmpP]
    exact Ev.all fun _ => by first | rfl | trivial
   ·rw [List.drop_eq_nil_of_le (show p.length ≤ i by omega)]
    simp only [dec_f (show ¬ ((l.length : Int) < (p.length : Int)) by omega), cond_false, cmpP]
    exact Ev.all fun _ => by first | rfl | trivial
  | succ e ih =>
   intro i hi hip
   refine U109_0 _ _ _ _ _ (Ev.eq (fun _ => Q109_0 _ _ _ _ _ _) ?_)
   have hlt : i < l.length := by omega
   have wi : IntKind.wrap IntKind.i64 ((i : Int) + 1) = ((i + 1 : Nat) : Int) := by rw [wrap_id (by omega) (by omega)]; omega
   rw [List.drop_eq_getElem_cons hlt]
   have hg : l.getD i 0 = l[i] := by simp [List.getD_eq_getElem?_getD, hlt]
   have d0 : (0 : Int) ≤ (i : Int) := by omega
   have d1 : (i : Int) < (l.length : Int) := by omega
   simp only [dec_t d0, dec_t d1, Bool.and_self, cond_true, Int.toNat_natCast, wi, hg]
   by_cases h : i < p.length
   ·rw [List.drop_eq_getElem_cons h]
    have hg' : p.getD i 0 = p[i] := by simp [List.getD_eq_getElem?_getD, h]
    simp only [dec_f (show ¬ ((i : Int) ≥ (p.length : Int)) by omega), dec_t (show (i : Int) < (p.length : Int) by omega), Bool.and_self, cond_true, cond_false, hg', L132, Option.bind_some, cmpP]
    by_cases hc : cmp1 l[i] p[i] = 0
    ·have : (cmp1 l[i] p[i] != 0) = false := by simp [hc]
     simp only [hc, ne_eq, not_true_eq_false, if_false]
     exact ih (i + 1) (by omega) (by omega)
    ·have : (cmp1 l[i] p[i] != 0) = true := by simpa using hc
     simp only [this, cond_true, ne_eq, hc, not_false_eq_true, if_true]
     exact Ev.all fun _ => by first | rfl | trivial
   ·rw [List.drop_eq_nil_of_le (show p.length ≤ i by omega)]
    simp only [dec_t (show (i : Int) ≥ (p.length : Int) by omega), cond_true, cmpP]
    exact Ev.all fun _ => by first | rfl | trivial
 have := key l.length 0 (by omega) (by omega)
 simpa using this
def selN (hs : List Int) (set : Nat) : Nat → List Int × Nat
 | 0 => ([], 0)
 | j + 1 => if set.testBit j = true then ((selN hs set j).1 ++ [hs.getD j 0], (selN hs set j).2 ||| 2 ^ (hs.getD j 0).toNat) else selN hs set j
def worse (l best : List Int) : Bool := decide (l.length > best.length) || (l.length == best.length && decide (cmpP l best > 0))
def wrongN (c : Int × List Sp × Unit) (hs : List Int) : Nat → Nat → List Int → Bool → List Int × Bool
 | 0, _, best, found => (best, found)
 | e + 1, set, best, found =>
  if (found && worse (selN hs set hs.length).1 best) = true then wrongN c hs e (set + 1) best found
  else if alive (spn (c, ((selN hs set hs.length).2 : Int), ()) nob) = true then wrongN c hs e (set + 1) (selN hs set hs.length).1 true else wrongN c hs e (set + 1) best found
def isHope (c : Int × List Sp × Unit) (d : Nat) : Bool := (c.2.1.getD d z0).1 == 3
theorem selN_len (hs : List Int) (set : Nat) : ∀ j, (selN hs set j).1.length ≤ j
 | 0 => by simp [selN]
 | j + 1 => by
  have := selN_len hs set j
  unfold selN
  split
  ·simp; omega
  ·omega
theorem selN_lt (hs : List Int) (set : Nat) (hb : ∀ x ∈ hs, 0 ≤ x ∧ x < 12) : ∀ j, j ≤ hs.length → (selN hs set j).2 < 4096
 | 0, _ => by simp [selN]
 | j + 1, hj => by
  have h1 := selN_lt hs set hb j (by omega)
  unfold selN
  split
  ·have hm : hs.getD j 0 ∈ hs := by
    rw [List.getD_eq_getElem?_getD, List.getElem?_eq_getElem (by omega)]
    exact List.getElem_mem _
   have h2 := hb _ hm
   have h3 : (2 : Nat) ^ (hs.getD j 0).toNat < 2 ^ 12 := Nat.pow_lt_pow_right (by decide) (by omega)
   exact Nat.or_lt_two_pow (n := 12) h1 h3
  ·exact h1
theorem or_ok (b d : Nat) (hb : b < 4096) (hd : d < 12) : bitF BinOp.or IntKind.i64 (b : Int) (IntKind.wrap IntKind.i64 (1 * 2 ^ min d 64)) = ((b ||| 2 ^ d : Nat) : Int) := by
 have hmin : min d 64 = d := by omega
 rw [hmin]
 have hp : (2 : Nat) ^ d < 2 ^ 12 := Nat.pow_lt_pow_right (by decide) hd
 have e0 : (1 : Int) * 2 ^ d = ((2 ^ d : Nat) : Int) := by simp
 have ho : b ||| 2 ^ d < 2 ^ 12 := Nat.or_lt_two_pow hb hp
 rw [e0]
 clear e0
 generalize (2 : Nat) ^ d = p at *
 rw [wrap_id (x := (p : Int)) (by omega) (by omega)]
 show IntKind.wrap IntKind.i64 _ = _
 have : ((BitVec.ofInt (IntKind.bits IntKind.i64) (b : Int)) ||| (BitVec.ofInt (IntKind.bits IntKind.i64) (p : Int))).toNat = b ||| p := by
  show ((BitVec.ofInt 64 (b : Int)) ||| (BitVec.ofInt 64 (p : Int))).toNat = b ||| p
  have e3 : BitVec.ofInt 64 (b : Int) = BitVec.ofNat 64 b := by simp
  have e4 : BitVec.ofInt 64 (p : Int) = BitVec.ofNat 64 p := by simp
  rw [e3, e4, BitVec.toNat_or]
  simp only [BitVec.toNat_ofNat]
  rw [Nat.mod_eq_of_lt (by omega), Nat.mod_eq_of_lt (by omega)]
 rw [this]
 exact wrap_id (by omega) (by omega)
theorem wrong2 (c : Int × List Sp × Unit) (hv : Valid c) (hs : List Int) (hb : ∀ x ∈ hs, 0 ≤ x ∧ x < 12) (hl : hs.length ≤ 12) (y : denL [(.slice (.int .i64)), (.int .i64)]) (set : Nat) (hset : set < 4096) (best : List Int) (hbl : best.length ≤ 12) (found : Bool) (m : Nat)
  (h : if (found && worse (selN hs set hs.length).1 best) = true then Ev fun k => T35_1 best hs found m ((set + 1 : Nat) : Int) c k = some y
    else if alive (spn (c, ((selN hs set hs.length).2 : Int), ()) nob) = true then Ev fun k => T35_1 (selN hs set hs.length).1 hs true m ((set + 1 : Nat) : Int) c k = some y
    else Ev fun k => T35_1 best hs found m ((set + 1 : Nat) : Int) c k = some y) :
  ∀ (e j : Nat), j + e = hs.length → Ev fun k => T35_2 best hs found set (selN hs set j).2 m set hs hs.length j c (selN hs set j).1 k = some y := by
 have wS : IntKind.wrap IntKind.i64 ((set : Int) + 1) = ((set + 1 : Nat) : Int) := by rw [wrap_id (by omega) (by omega)]; omega
 intro e
 induction e with
 | zero =>
  intro j hj
  obtain rfl : j = hs.length := by omega
  refine U35_2 _ _ _ _ _ _ _ _ _ _ _ _ (Ev.eq (fun _ => Q35_2 _ _ _ _ _ _ _ _ _ _ _ _ _) ?_)
  have hlt := selN_lt hs set hb hs.length (Nat.le_refl _)
  have hlen := selN_len hs set hs.length
  generalize selN hs set hs.length = L at *
  have hs' := L110 (c, (L.2 : Int), ()) L.2 hv rfl hlt
  have h107 := L107 c (L.2 : Int)
  simp only [dec_f (show ¬ ((hs.length : Int) < (hs.length : Int)) by omega), cond_false, wS]
  rw [h107]
  simp only [Option.bind_some]
  rw [hs']
  simp only [Option.bind_some]
  have look : (if alive (spn (c, (L.2 : Int), ()) nob) = true then Ev fun k => T35_1 L.1 hs true m ((set + 1 : Nat) : Int) c k = some y else Ev fun k => T35_1 best hs found m ((set + 1 : Nat) : Int) c k = some y) →
    Ev fun k => (bif alive (spn (c, (L.2 : Int), ()) nob) then T35_1 L.1 hs true m ((set + 1 : Nat) : Int) c k else T35_1 best hs found m ((set + 1 : Nat) : Int) c k) = some y := by
   intro hh
   cases ha : alive (spn (c, (L.2 : Int), ()) nob) with
   | true => simp only [ha, if_true, cond_true] at hh ⊢; exact hh
   | false => simp only [ha, Bool.false_eq_true, if_false, cond_false] at hh ⊢; exact hh
  cases found with
  | false =>
   simp only [Bool.false_and, Bool.false_eq_true, if_false] at h
   simp only [cond_false]
   exact look h
  | true =>
   simp only [Bool.true_and] at h
   simp only [cond_true]
   unfold worse at h
   by_cases h1 : L.1.length > best.length
   ·simp only [dec_t h1, Bool.true_or, if_true] at h
    simp only [dec_t (show (L.1.length : Int) > (best.length : Int) by omega), cond_true]
    exact h
   ·simp only [dec_f h1, Bool.false_or] at h
    simp only [dec_f (show ¬ ((L.1.length : Int) > (best.length : Int)) by omega), cond_false]
    by_cases h2 : L.1.length = best.length
    ·have e1 : (L.1.length == best.length) = true := by simpa using h2
     have e2 : ((L.1.length : Int) == (best.length : Int)) = true := beq_iff_eq.2 (by rw [h2])
     simp only [e1, Bool.true_and] at h
     simp only [e2, cond_true]
     rw [L109 _ _ (by omega) (by omega)]
     simp only [Option.bind_some]
     by_cases h3 : cmpP L.1 best > 0
     ·simp only [dec_t h3, if_true] at h
      simp only [dec_t h3, cond_true]
      exact h
     ·simp only [dec_f h3, Bool.false_eq_true, if_false] at h
      simp only [dec_f h3, cond_false]
      exact look h
    ·have e1 : (L.1.length == best.length) = false := by simpa using h2
     have e2 : ((L.1.length : Int) == (best.length : Int)) = false := by simp; omega
     simp only [e1, Bool.false_and, Bool.false_eq_true, if_false] at h
     simp only [e2, cond_false]
     exact look h
 | succ e ih =>
  intro j hj
  refine U35_2 _ _ _ _ _ _ _ _ _ _ _ _ (Ev.eq (fun _ => Q35_2 _ _ _ _ _ _ _ _ _ _ _ _ _) ?_)
  have hi := ih (j + 1) (by omega)
  have hjl : j < hs.length := by omega
  have wj : IntKind.wrap IntKind.i64 ((j : Int) + 1) = ((j + 1 : Nat) : Int) := by rw [wrap_id (by omega) (by omega)]; omega
  have hm : hs.getD j 0 ∈ hs := by
   rw [List.getD_eq_getElem?_getD, List.getElem?_eq_getElem hjl]
   exact List.getElem_mem _
  have hx := hb _ hm
  have hlt := selN_lt hs set hb j (by omega)
  have hlen := selN_len hs set j
  rw [selN] at hi
  generalize selN hs set j = L at *
  have hd2 : L.1.length + (List.set (List.replicate 1 (0 : Int)) 0 (hs.getD j 0)).length ≤ 2147483648 := by rw [one_set, List.length_cons, List.length_nil]; omega
  simp only [dec_t (show (j : Int) < (hs.length : Int) by omega), dec_t (show (0 : Int) ≤ (j : Int) by omega), dec_f (show ¬ ((j : Int) < 0) by omega), Bool.and_self, cond_true, cond_false, Int.toNat_natCast, wj, bit_ok set j hset (by omega), dec_f (show ¬ (hs.getD j 0 < 0) by omega), dec_t hd2, or_ok L.2 (hs.getD j 0).toNat hlt (by omega)]
  simp only [one_set]
  cases hbit : set.testBit j with
  | true =>
   simp only [hbit, if_true] at hi
   simp only [cond_true]
   exact hi
  | false =>
   simp only [hbit, Bool.false_eq_true, if_false] at hi
   simp only [cond_false]
   exact hi
theorem wrong1 (c : Int × List Sp × Unit) (hv : Valid c) (hs : List Int) (hb : ∀ x ∈ hs, 0 ≤ x ∧ x < 12) (hl : hs.length ≤ 12) (y : denL [(.slice (.int .i64)), (.int .i64)]) (hy : ∀ r : List Int × Bool, r = wrongN c hs (2 ^ hs.length) 0 [] false → y = if r.2 = true then (r.1, 0, ()) else ([], 9, ())) : ∀ (e set : Nat) (best : List Int) (found : Bool), set + e = 2 ^ hs.length → best.length ≤ 12 → wrongN c hs e set best found = wrongN c hs (2 ^ hs.length) 0 [] false →
  Ev fun k => T35_1 best hs found ((2 ^ hs.length : Nat) : Int) set c k = some y := by
 have hp : (2 : Nat) ^ hs.length ≤ 2 ^ 12 := Nat.pow_le_pow_right (by decide) hl
 intro e
 induction e with
 | zero =>
  intro set best found hset hbl h
  simp only [wrongN] at h
  have hy' := hy _ h
  refine U35_1 _ _ _ _ _ _ (Ev.eq (fun _ => Q35_1 _ _ _ _ _ _ _) ?_)
  simp only [dec_f (show ¬ ((set : Int) < ((2 ^ hs.length : Nat) : Int)) by omega), cond_false]
  rw [hy']
  cases found <;> exact Ev.all fun _ => by first | rfl | trivial
 | succ e ih =>
  intro set best found hset hbl h
  refine U35_1 _ _ _ _ _ _ (Ev.eq (fun _ => Q35_1 _ _ _ _ _ _ _) ?_)
  simp only [dec_t (show (set : Int) < ((2 ^ hs.length : Nat) : Int) by omega), cond_true]
  refine wrong2 c hv hs hb hl y set (by omega) best hbl found (2 ^ hs.length) ?_ hs.length 0 (by omega)
  have hlen := selN_len hs set hs.length
  simp only [wrongN] at h
  split
  ·rename_i hc
   rw [if_pos hc] at h
   exact ih (set + 1) best found (by omega) hbl h
  ·rename_i hc
   rw [if_neg hc] at h
   split
   ·rename_i ha
    rw [if_pos ha] at h
    exact ih (set + 1) _ true (by omega) (by omega) h
   ·rename_i ha
    rw [if_neg ha] at h
    exact ih (set + 1) best found (by omega) hbl h
def wrongP (c : Int × List Sp × Unit) : List Int × Int × Unit :=
 if (chk c).2.2.1 ≠ 0 then ([], (chk c).2.2.1, ()) else
  if (wrongN c (numsL (isHope c) c.2.1.length) (2 ^ (numsL (isHope c) c.2.1.length).length) 0 [] false).2 = true then ((wrongN c (numsL (isHope c) c.2.1.length) (2 ^ (numsL (isHope c) c.2.1.length).length) 0 [] false).1, 0, ()) else ([], 9, ())
theorem L35 (c : Int × List Sp × Unit) : F35 ((c, ()) : (Int × List Sp × Unit) × Unit) = some (wrongP c) := by
 refine ghost_eq (Ev.eq (fun _ => E35 _ _) ?_)
 rw [L18, L107]
 simp only [Option.bind_some]
 unfold wrongP
 by_cases h : (chk c).2.2.1 = 0
 ·have e1 : ((chk c).2.2.1 != 0) = false := by simp [h]
  obtain ⟨hv, _⟩ := chk_ok h
  have hl := hv.l12
  rw [if_neg (by simpa using h)]
  simp only [e1, cond_false, dec_t (show (0 : Int) ≤ (c.2.1.length : Int) by omega), dec_t (show (c.2.1.length : Int) ≤ 2147483648 by omega), Bool.and_self, Int.toNat_natCast]
  have hlen := numsL_len (isHope c) c.2.1.length
  have hmem : ∀ x ∈ numsL (isHope c) c.2.1.length, 0 ≤ x ∧ x < 12 := by
   intro x hx
   obtain ⟨n, h1, _, rfl⟩ := numsL_mem.1 hx
   omega
  have key : ∀ (e d : Nat), d + e = c.2.1.length → Ev fun k => T35_0 0 (numsL (isHope c) d).length c.2.1.length d [] (some (c, 0, ())) c (rowL (numsL (isHope c) d) c.2.1.length) k = some (if (wrongN c (numsL (isHope c) c.2.1.length) (2 ^ (numsL (isHope c) c.2.1.length).length) 0 [] false).2 = true then ((wrongN c (numsL (isHope c) c.2.1.length) (2 ^ (numsL (isHope c) c.2.1.length).length) 0 [] false).1, 0, ()) else ([], 9, ())) := by
   intro e
   induction e with
   | zero =>
    intro d hd
    obtain rfl : d = c.2.1.length := by omega
    refine U35_0 _ _ _ _ _ _ _ _ (Ev.eq (fun _ => Q35_0 _ _ _ _ _ _ _ _) ?_)
    generalize numsL (isHope c) c.2.1.length = A at *
    have d5 : (A.length : Int) ≤ ((rowL A c.2.1.length).length : Int) := by rw [rowL_len (by omega)]; omega
    simp only [dec_f (show ¬ ((c.2.1.length : Int) < (c.2.1.length : Int)) by omega), dec_t (show (0 : Int) ≤ (A.length : Int) by omega), dec_t d5, Bool.and_self, cond_false, cond_true, Int.toNat_natCast]
    rw [take_row]
    have hpow : IntKind.wrap IntKind.i64 (1 * 2 ^ min A.length 64) = ((2 ^ A.length : Nat) : Int) := by
     have hp : (2 : Nat) ^ A.length ≤ 2 ^ 12 := Nat.pow_le_pow_right (by decide) (by omega)
     rw [show min A.length 64 = A.length by omega, show (1 : Int) * 2 ^ A.length = ((2 ^ A.length : Nat) : Int) by simp]
     generalize (2 : Nat) ^ A.length = p at *
     exact wrap_id (by omega) (by omega)
    rw [hpow]
    exact wrong1 c hv A hmem (by omega) _ (fun r hr => by rw [hr]) (2 ^ A.length) 0 [] false (by omega) (by simp) rfl
   | succ e ih =>
    intro d hd
    have hi := ih (d + 1) (by omega)
    rw [numsL_succ] at hi
    have hA := numsL_len (isHope c) d
    generalize numsL (isHope c) d = A at *
    generalize (if (wrongN c (numsL (isHope c) c.2.1.length) (2 ^ (numsL (isHope c) c.2.1.length).length) 0 [] false).2 = true then ((wrongN c (numsL (isHope c) c.2.1.length) (2 ^ (numsL (isHope c) c.2.1.length).length) 0 [] false).1, 0, ()) else ([], 9, ()) : List Int × Int × Unit) = y at *
    have wd : IntKind.wrap IntKind.i64 ((d : Int) + 1) = ((d + 1 : Nat) : Int) := by rw [wrap_id (by omega) (by omega)]; omega
    refine U35_0 _ _ _ _ _ _ _ _ (Ev.eq (fun _ => Q35_0 _ _ _ _ _ _ _ _) ?_)
    have d5 : (A.length : Int) ≤ ((rowL A c.2.1.length).length : Int) := by rw [rowL_len (by omega)]; omega
    have hg : (c.2.1.getD d (0, 0, ())).1 = (c.2.1.getD d z0).1 := rfl
    simp only [dec_t (show (d : Int) < (c.2.1.length : Int) by omega), dec_t (show (d : Int) ≥ 0 by omega), dec_t (show (0 : Int) ≤ (A.length : Int) by omega), dec_t d5, Bool.and_self, cond_true, Int.toNat_natCast, wd, hg]
    simp only [one_set]
    rw [put_row A _ _ (by omega), put_cnt A _ _ (by omega) hl]
    unfold isHope at hi
    cases hm : ((c.2.1.getD d z0).1 == 3) with
    | true =>
     simp only [hm, if_true] at hi
     simp only [cond_true]
     exact hi
    | false =>
     simp only [hm, Bool.false_eq_true, if_false] at hi
     simp only [cond_false]
     exact hi
  have := key c.2.1.length 0 (by omega)
  exact this
 ·have e1 : ((chk c).2.2.1 != 0) = true := by simpa using h
  simp only [e1, cond_true]
  rw [if_pos (by simpa using h)]
  exact Ev.all fun _ => by first | rfl | trivial
theorem L30 (l p : List Int) (hl : l.length < 1000000) : F30 ((l, p, ()) : List Int × List Int × Unit) = some (decide (l = p), ()) := by
 refine ghost_eq (Ev.eq (fun _ => E30 _ _ _) ?_)
 by_cases hlen : l.length = p.length
 ·have e0 : ((l.length : Int) == (p.length : Int)) = true := beq_iff_eq.2 (by rw [hlen])
  rw [e0]
  have key : ∀ (e i : Nat), i + e = l.length → Ev fun f => iter cx36 S30 [.bool] 6000 f 0 K30_0 (((l, (p, (true, ((i : Int), ())))), ()), ()) = some (decide (l.drop i = p.drop i), ()) := by
   intro e
   induction e with
   | zero =>
    intro i hi
    refine iter_ev (Ev.eq (fun _ => Q30_0 _ _ _ _ _) ?_)
    rw [List.drop_eq_nil_of_le (by omega), List.drop_eq_nil_of_le (by omega)]
    simp only [cond_true, dec_f (show ¬ ((i : Int) < (l.length : Int)) by omega), cond_false]
    exact Ev.all fun _ => by simp
   | succ e ih =>
    intro i hi
    refine iter_ev (Ev.eq (fun _ => Q30_0 _ _ _ _ _) ?_)
    have h1 : i < l.length := by omega
    have h2 : i < p.length := by omega
    have wi : IntKind.wrap IntKind.i64 ((i : Int) + 1) = ((i + 1 : Nat) : Int) := by rw [wrap_id (by omega) (by omega)]; omega
    have hg : l.getD i 0 = l[i] := by simp [List.getD_eq_getElem?_getD, h1]
    have hg' : p.getD i 0 = p[i] := by simp [List.getD_eq_getElem?_getD, h2]
    simp only [cond_true, dec_t (show (i : Int) < (l.length : Int) by omega), dec_t (show (0 : Int) ≤ (i : Int) by omega), dec_t (show (i : Int) < (p.length : Int) by omega), Bool.and_self, Int.toNat_natCast, wi, hg, hg']
    rw [List.drop_eq_getElem_cons h1, List.drop_eq_getElem_cons h2]
    by_cases he : l[i] = p[i]
    ·have : (l[i] == p[i]) = true := by simpa using he
     rw [this]
     have := ih (i + 1) (by omega)
     have e3 : decide (l[i] :: l.drop (i + 1) = p[i] :: p.drop (i + 1)) = decide (l.drop (i + 1) = p.drop (i + 1)) := decide_eq_decide.2 ⟨fun h => (List.cons.inj h).2, fun h => by rw [he, h]⟩
     rw [e3]
     exact this
    ·have : (l[i] == p[i]) = false := by simpa using he
     rw [this]
     refine iter_ev (Ev.eq (fun _ => Q30_0 _ _ _ _ _) ?_)
     have e3 : decide (l[i] :: l.drop (i + 1) = p[i] :: p.drop (i + 1)) = false := decide_eq_false fun h => he (List.cons.inj h).1
     rw [e3]
     exact Ev.all fun _ => by first | rfl | trivial
  have := key l.length 0 (by omega)
  simpa using this
 ·have e0 : ((l.length : Int) == (p.length : Int)) = false := by simp; omega
  rw [e0]
  refine iter_ev (Ev.eq (fun _ => Q30_0 _ _ _ _ _) ?_)
  have : ¬ l = p := fun e => hlen (by rw [e])
  exact Ev.all fun _ => by simp [this]
end Go.Proofs.YtjigflnjgmgmnaaDoor
