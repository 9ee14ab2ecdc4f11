/- No function of package cloud changes an argument, or keeps what it returns. Conditions: as each lemma states. -/
import Derived.Test.YtjigflnjgmgmnaaDoorClAo
import Derived.Test.YtjigflnjgmgmnaaDoorClF
import Derived.Test.YtjigflnjgmgmnaaDoorClT
import Derived.Test.YtjigflnjgmgmnaaDoorClI
import Derived.Test.YtjigflnjgmgmnaaDoorClK
import Derived.Test.YtjigflnjgmgmnaaDoorClG
import Derived.Test.YtjigflnjgmgmnaaDoorGhG
import Derived.Deep.Slices
import Derived.Deep.DeepHandedRow
namespace Go.Proofs.YtjigflnjgmgmnaaDoor
open Go Go.Gh Go.Proofs
theorem L83 (n : List Int) (hn : n.length ≤ 1152921504606846976) : F83 ((n, [], ()), (n, [], ()), ()) = some (true, ()) := by
 refine N83 _ _ ?_
 simp only [bne_self_eq_false, bif_fls]
 have key : ∀ (c i : Nat), i + c = n.length → Ev fun k => T83_0 (i : Int) (n, [], ()) (n, [], ()) k = some (true, ()) := by
  intro c
  induction c with
  | zero =>
   intro i hi
   apply R83_0
   simp (disch := omega) only [bif_f]
   apply R83_1
   exact Ev.all fun _ => by first | rfl | trivial
  | succ c ih =>
   intro i hi
   apply R83_0
   have hil : i < n.length := by omega
   simp (disch := omega) only [bif_t, bif_tt, wrap_succ2, bne_self_eq_false, bif_fls]
   exact ih (i + 1) (by omega)
 exact key n.length 0 (by omega)
def fDy (x : Int × Int × Unit) : List Int := [x.1, x.2.1]
def fI (x : Int) : List Int := [x]
theorem st17_0 (t1 : (List (Int × Int × Unit))) (u5 : (List (Int × Int × Unit))) (v10 : (List (Int × Int × Unit))) (w6 : (Int × (List (Int × Int × Unit)) × Unit)) (z4_6 : ((Int × (List (Int × Int × Unit)) × Unit) × Int × Int × Unit)) (h0 : ((Int × (List (Int × Int × Unit)) × Unit) × Int × Int × Unit)) (h3 : ((Int × (List (Int × Int × Unit)) × Unit) × Int × Int × Unit)) (A : List Int) {y : denL [.bool]} (hA : List.length A + (List.flatMap fDy t1).length ≤ 17592186044416) (hl : List.length t1 < 4611686018427387904) (h : Ev fun k =>
 (bif decide (List.length (A ++ List.flatMap fDy t1) + List.length (List.set (List.replicate 1 0) 0 h3.2.1) ≤ 17592186044416) then bif decide (List.length ((A ++ List.flatMap fDy t1) ++ List.set (List.replicate 1 0) 0 h3.2.1) + List.length (List.set (List.replicate 1 0) 0 h3.2.2.1) ≤ 17592186044416) then Option.bind (F18 (h0.1, ())) fun (y : Int × Int × Int × Unit) => Option.bind (F18 (h0.1, ())) fun (y_1 : Int × Int × Int × Unit) => Option.bind (F83 ((List.set (List.replicate 1 0) 0 y.1 ++ List.set (List.replicate 1 0) 0 y.2.1 ++ List.set (List.replicate 1 0) 0 y.2.2.1, [], ()), (List.set (List.replicate 1 0) 0 y_1.1 ++ List.set (List.replicate 1 0) 0 y_1.2.1 ++ List.set (List.replicate 1 0) 0 y_1.2.2.1, [], ()), ())) fun (y : Bool × Unit) => bif y.1 then Option.bind (F20 (h0.1, h0.2.1, ())) fun (y : (Int × Int × Unit) × Int × Unit) => Option.bind (F20 (h0.1, h0.2.1, ())) fun (y_2 : (Int × Int × Unit) × Int × Unit) => Option.bind (F83 ((List.set (List.replicate 1 0) 0 y.1.1 ++ List.set (List.replicate 1 0) 0 y.1.2.1 ++ List.set (List.replicate 1 0) 0 y.2.1, [], ()), (List.set (List.replicate 1 0) 0 y_2.1.1 ++ List.set (List.replicate 1 0) 0 y_2.1.2.1 ++ List.set (List.replicate 1 0) 0 y_2.2.1, [], ()), ())) fun (y : Bool × Unit) => bif y.1 then Option.bind (F23 (h0.1, ())) fun (y : (Int × Int × Unit) × (Int × Int × Unit) × Int × Unit) => Option.bind (F23 (h0.1, ())) fun (y_3 : (Int × Int × Unit) × (Int × Int × Unit) × Int × Unit) => Option.bind (F83 ((List.set (List.replicate 1 0) 0 y.1.1 ++ List.set (List.replicate 1 0) 0 y.1.2.1 ++ List.set (List.replicate 1 0) 0 y.2.1.1 ++ List.set (List.replicate 1 0) 0 y.2.1.2.1 ++ List.set (List.replicate 1 0) 0 y.2.2.1, [], ()), (List.set (List.replicate 1 0) 0 y_3.1.1 ++ List.set (List.replicate 1 0) 0 y_3.1.2.1 ++ List.set (List.replicate 1 0) 0 y_3.2.1.1 ++ List.set (List.replicate 1 0) 0 y_3.2.1.2.1 ++ List.set (List.replicate 1 0) 0 y_3.2.2.1, [], ()), ())) fun (y : Bool × Unit) => bif y.1 then Option.bind (F25 (h0.1, h0.2.1, h0.2.2.1, ())) fun (y : (Int × Int × Unit) × (Int × Int × Unit) × Int × Unit) => Option.bind (F25 (h0.1, h0.2.1, h0.2.2.1, ())) fun (y_4 : (Int × Int × Unit) × (Int × Int × Unit) × Int × Unit) => Option.bind (F83 ((List.set (List.replicate 1 0) 0 y.1.1 ++ List.set (List.replicate 1 0) 0 y.1.2.1 ++ List.set (List.replicate 1 0) 0 y.2.1.1 ++ List.set (List.replicate 1 0) 0 y.2.1.2.1 ++ List.set (List.replicate 1 0) 0 y.2.2.1, [], ()), (List.set (List.replicate 1 0) 0 y_4.1.1 ++ List.set (List.replicate 1 0) 0 y_4.1.2.1 ++ List.set (List.replicate 1 0) 0 y_4.2.1.1 ++ List.set (List.replicate 1 0) 0 y_4.2.1.2.1 ++ List.set (List.replicate 1 0) 0 y_4.2.2.1, [], ()), ())) fun (y : Bool × Unit) => bif y.1 then Option.bind (F28 (h0.1, ())) fun (y : List Int × List Int × Int × Unit) => T17_1 0 y.2.2.1 true h0 y.1 ((A ++ List.flatMap fDy t1) ++ List.set (List.replicate 1 0) 0 h3.2.1 ++ List.set (List.replicate 1 0) 0 h3.2.2.1) (List.set (List.replicate 1 0) 0 (↑(List.length y.1) : Int)) y.2.1 k else T17_2 h0.1.2.1 0 h0.1.2.1 h0.1.2.1 h0.1 false h0 h0 ((A ++ List.flatMap fDy t1) ++ List.set (List.replicate 1 0) 0 h3.2.1 ++ List.set (List.replicate 1 0) 0 h3.2.2.1) (List.set (List.replicate 1 0) 0 h0.1.1 ++ List.set (List.replicate 1 0) 0 (↑(List.length h0.1.2.1) : Int)) k else T17_2 h0.1.2.1 0 h0.1.2.1 h0.1.2.1 h0.1 false h0 h0 ((A ++ List.flatMap fDy t1) ++ List.set (List.replicate 1 0) 0 h3.2.1 ++ List.set (List.replicate 1 0) 0 h3.2.2.1) (List.set (List.replicate 1 0) 0 h0.1.1 ++ List.set (List.replicate 1 0) 0 (↑(List.length h0.1.2.1) : Int)) k else T17_2 h0.1.2.1 0 h0.1.2.1 h0.1.2.1 h0.1 false h0 h0 ((A ++ List.flatMap fDy t1) ++ List.set (List.replicate 1 0) 0 h3.2.1 ++ List.set (List.replicate 1 0) 0 h3.2.2.1) (List.set (List.replicate 1 0) 0 h0.1.1 ++ List.set (List.replicate 1 0) 0 (↑(List.length h0.1.2.1) : Int)) k else T17_2 h0.1.2.1 0 h0.1.2.1 h0.1.2.1 h0.1 false h0 h0 ((A ++ List.flatMap fDy t1) ++ List.set (List.replicate 1 0) 0 h3.2.1 ++ List.set (List.replicate 1 0) 0 h3.2.2.1) (List.set (List.replicate 1 0) 0 h0.1.1 ++ List.set (List.replicate 1 0) 0 (↑(List.length h0.1.2.1) : Int)) k else none else none : Option (denL [.bool])) = some y) : Ev fun k => T17_0 t1 0 u5 v10 w6 z4_6 h0 h3 A k = some y :=
 put_loop (T := fun i A k => T17_0 t1 (i : Int) u5 v10 w6 z4_6 h0 h3 A k) fDy t1 (0, 0, ()) 17592186044416 (fun i A hi hA h => R17_0 _ _ _ _ _ _ _ _ _ (Ev.eq (fun _ => bif_t (by omega) _ _) (Ev.eq (fun _ => bif_tt (by omega) (by omega) _ _) (by
  simp only [fDy, List.length_cons, List.length_nil] at hA
  simp (disch := first | omega | (simp only [one_set, List.length_append, List.length_cons, List.length_nil]; omega)) only [bif_t, wrap_succ2]
  simp only [one_set, Int.toNat_natCast, List.append_assoc, List.cons_append, List.nil_append]
  exact h)))) hA (R17_0 _ _ _ _ _ _ _ _ _ (Ev.eq (fun _ => bif_f (by omega) _ _) h))
theorem st17_1 (v6 : Int) (z4_22 : Bool) (h0 : ((Int × (List (Int × Int × Unit)) × Unit) × Int × Int × Unit)) (h7 : (List Int)) (h8 : (List Int)) (h10 : (List Int)) (A : List Int) {y : denL [.bool]} (hA : List.length A + (List.flatMap fI h7).length ≤ 17592186044416) (hl : List.length h7 < 4611686018427387904) (h : Ev fun k =>
 (bif decide (List.length (A ++ List.flatMap fI h7) + List.length (List.set (List.replicate 1 0) 0 (↑(List.length h10) : Int)) ≤ 17592186044416) then T17_3 0 v6 z4_22 h0 h7 h8 ((A ++ List.flatMap fI h7) ++ List.set (List.replicate 1 0) 0 (↑(List.length h10) : Int)) h10 k else none : Option (denL [.bool])) = some y) : Ev fun k => T17_1 0 v6 z4_22 h0 h7 h8 A h10 k = some y :=
 put_loop (T := fun i A k => T17_1 (i : Int) v6 z4_22 h0 h7 h8 A h10 k) fI h7 0 17592186044416 (fun i A hi hA h => R17_1 _ _ _ _ _ _ _ _ (Ev.eq (fun _ => bif_t (by omega) _ _) (Ev.eq (fun _ => bif_tt (by omega) (by omega) _ _) (by
  simp only [fI, List.length_cons, List.length_nil] at hA
  simp (disch := first | omega | (simp only [one_set, List.length_append, List.length_cons, List.length_nil]; omega)) only [bif_t, wrap_succ2]
  simp only [one_set, Int.toNat_natCast]
  exact h)))) hA (R17_1 _ _ _ _ _ _ _ _ (Ev.eq (fun _ => bif_f (by omega) _ _) h))
theorem st17_2 (t1 : (List (Int × Int × Unit))) (u5 : (List (Int × Int × Unit))) (v10 : (List (Int × Int × Unit))) (w6 : (Int × (List (Int × Int × Unit)) × Unit)) (z4_5 : Bool) (z4_38 : ((Int × (List (Int × Int × Unit)) × Unit) × Int × Int × Unit)) (h2 : ((Int × (List (Int × Int × Unit)) × Unit) × Int × Int × Unit)) (h3 : (List Int)) (A : List Int) {y : denL [.bool]} (hA : List.length A + (List.flatMap fDy t1).length ≤ 17592186044416) (hl : List.length t1 < 4611686018427387904) (h : Ev fun _ =>
 (bif decide (List.length (A ++ List.flatMap fDy t1) + List.length (List.set (List.replicate 1 0) 0 h2.2.1) ≤ 17592186044416) then bif decide (List.length ((A ++ List.flatMap fDy t1) ++ List.set (List.replicate 1 0) 0 h2.2.1) + List.length (List.set (List.replicate 1 0) 0 h2.2.2.1) ≤ 17592186044416) then bif z4_5 then Option.bind (F83 ((h3, [], ()), ((A ++ List.flatMap fDy t1) ++ List.set (List.replicate 1 0) 0 h2.2.1 ++ List.set (List.replicate 1 0) 0 h2.2.2.1, [], ()), ())) fun (y : Bool × Unit) => bif y.1 then Option.bind (F22 ()) fun (y : Bool × Unit) => some (y.1, ()) else some (false, ()) else some (false, ()) else none else none : Option (denL [.bool])) = some y) : Ev fun k => T17_2 t1 0 u5 v10 w6 z4_5 z4_38 h2 h3 A k = some y :=
 put_loop (T := fun i A k => T17_2 t1 (i : Int) u5 v10 w6 z4_5 z4_38 h2 h3 A k) fDy t1 (0, 0, ()) 17592186044416 (fun i A hi hA h => R17_2 _ _ _ _ _ _ _ _ _ _ (Ev.eq (fun _ => bif_t (by omega) _ _) (Ev.eq (fun _ => bif_tt (by omega) (by omega) _ _) (by
  simp only [fDy, List.length_cons, List.length_nil] at hA
  simp (disch := first | omega | (simp only [one_set, List.length_append, List.length_cons, List.length_nil]; omega)) only [bif_t, wrap_succ2]
  simp only [one_set, Int.toNat_natCast, List.append_assoc, List.cons_append, List.nil_append]
  exact h)))) hA (R17_2 _ _ _ _ _ _ _ _ _ _ (Ev.eq (fun _ => bif_f (by omega) _ _) h))
theorem st17_3 (v6 : Int) (z4_22 : Bool) (h0 : ((Int × (List (Int × Int × Unit)) × Unit) × Int × Int × Unit)) (h7 : (List Int)) (h8 : (List Int)) (h10 : (List Int)) (A : List Int) {y : denL [.bool]} (hA : List.length A + (List.flatMap fI h10).length ≤ 17592186044416) (hl : List.length h10 < 4611686018427387904) (h : Ev fun k =>
 (bif decide (List.length (A ++ List.flatMap fI h10) + List.length (List.set (List.replicate 1 0) 0 v6) ≤ 17592186044416) then T17_4 0 z4_22 h0 h7 h8 ((A ++ List.flatMap fI h10) ++ List.set (List.replicate 1 0) 0 v6) h10 k else none : Option (denL [.bool])) = some y) : Ev fun k => T17_3 0 v6 z4_22 h0 h7 h8 A h10 k = some y :=
 put_loop (T := fun i A k => T17_3 (i : Int) v6 z4_22 h0 h7 h8 A h10 k) fI h10 0 17592186044416 (fun i A hi hA h => R17_3 _ _ _ _ _ _ _ _ (Ev.eq (fun _ => bif_t (by omega) _ _) (Ev.eq (fun _ => bif_tt (by omega) (by omega) _ _) (by
  simp only [fI, List.length_cons, List.length_nil] at hA
  simp (disch := first | omega | (simp only [one_set, List.length_append, List.length_cons, List.length_nil]; omega)) only [bif_t, wrap_succ2]
  simp only [one_set, Int.toNat_natCast]
  exact h)))) hA (R17_3 _ _ _ _ _ _ _ _ (Ev.eq (fun _ => bif_f (by omega) _ _) h))
theorem st17_4 (z4_22 : Bool) (h0 : ((Int × (List (Int × Int × Unit)) × Unit) × Int × Int × Unit)) (h7 : (List Int)) (h8 : (List Int)) (h9 : (List Int)) (h10 : (List Int)) {y : denL [.bool]} (hl : List.length h7 < 4611686018427387904) (h : ∀ lw : List Int, List.length lw = List.length h7 → Ev fun k =>
 (T17_5 0 z4_22 h0 lw h8 h9 h10 k : Option (denL [.bool])) = some y) : Ev fun k => T17_4 0 z4_22 h0 h7 h8 h9 h10 k = some y :=
 wipe_loop (T := fun i l k => T17_4 (i : Int) z4_22 h0 l h8 h9 h10 k) (-77) h7 (fun i l hl0 hi h => R17_4 _ _ _ _ _ _ _ (Ev.eq (fun _ => bif_t (by omega) _ _) (Ev.eq (fun _ => bif_tt (by omega) (by omega) _ _) (by
  simp (disch := omega) only [bif_t, Int.toNat_natCast, wrap_succ2]
  exact h)))) (fun l hl0 => R17_4 _ _ _ _ _ _ _ (Ev.eq (fun _ => bif_f (by omega) _ _) (h l hl0)))
theorem st17_5 (z4_22 : Bool) (h0 : ((Int × (List (Int × Int × Unit)) × Unit) × Int × Int × Unit)) (h7 : (List Int)) (h8 : (List Int)) (h9 : (List Int)) (h10 : (List Int)) {y : denL [.bool]} (hl : List.length h10 < 4611686018427387904) (h : Ev fun k =>
 (Option.bind (F28 (h0.1, ())) fun (y : List Int × List Int × Int × Unit) => T17_6 0 y.2.2.1 z4_22 h0 y.1 h8 h9 y.2.1 (List.set (List.replicate 1 0) 0 (↑(List.length y.1) : Int)) k : Option (denL [.bool])) = some y) : Ev fun k => T17_5 0 z4_22 h0 h7 h8 h9 h10 k = some y :=
 wipe_loop (T := fun i l k => T17_5 (i : Int) z4_22 h0 h7 h8 h9 l k) (-77) h10 (fun i l hl0 hi h => R17_5 _ _ _ _ _ _ _ (Ev.eq (fun _ => bif_t (by omega) _ _) (Ev.eq (fun _ => bif_tt (by omega) (by omega) _ _) (by
  simp (disch := omega) only [bif_t, Int.toNat_natCast, wrap_succ2]
  exact h)))) (fun l hl0 => R17_5 _ _ _ _ _ _ _ (Ev.eq (fun _ => bif_f (by omega) _ _) h))
theorem st17_6 (v6 : Int) (z4_22 : Bool) (h0 : ((Int × (List (Int × Int × Unit)) × Unit) × Int × Int × Unit)) (h7 : (List Int)) (h8 : (List Int)) (h9 : (List Int)) (h10 : (List Int)) (A : List Int) {y : denL [.bool]} (hA : List.length A + (List.flatMap fI h7).length ≤ 17592186044416) (hl : List.length h7 < 4611686018427387904) (h : Ev fun k =>
 (bif decide (List.length (A ++ List.flatMap fI h7) + List.length (List.set (List.replicate 1 0) 0 (↑(List.length h10) : Int)) ≤ 17592186044416) then T17_7 0 v6 z4_22 h0 h7 h8 h9 h10 ((A ++ List.flatMap fI h7) ++ List.set (List.replicate 1 0) 0 (↑(List.length h10) : Int)) k else none : Option (denL [.bool])) = some y) : Ev fun k => T17_6 0 v6 z4_22 h0 h7 h8 h9 h10 A k = some y :=
 put_loop (T := fun i A k => T17_6 (i : Int) v6 z4_22 h0 h7 h8 h9 h10 A k) fI h7 0 17592186044416 (fun i A hi hA h => R17_6 _ _ _ _ _ _ _ _ _ (Ev.eq (fun _ => bif_t (by omega) _ _) (Ev.eq (fun _ => bif_tt (by omega) (by omega) _ _) (by
  simp only [fI, List.length_cons, List.length_nil] at hA
  simp (disch := first | omega | (simp only [one_set, List.length_append, List.length_cons, List.length_nil]; omega)) only [bif_t, wrap_succ2]
  simp only [one_set, Int.toNat_natCast]
  exact h)))) hA (R17_6 _ _ _ _ _ _ _ _ _ (Ev.eq (fun _ => bif_f (by omega) _ _) h))
theorem st17_7 (v6 : Int) (z4_22 : Bool) (h0 : ((Int × (List (Int × Int × Unit)) × Unit) × Int × Int × Unit)) (h7 : (List Int)) (h8 : (List Int)) (h9 : (List Int)) (h10 : (List Int)) (A : List Int) {y : denL [.bool]} (hA : List.length A + (List.flatMap fI h10).length ≤ 17592186044416) (hl : List.length h10 < 4611686018427387904) (h : Ev fun k =>
 (bif decide (List.length (A ++ List.flatMap fI h10) + List.length (List.set (List.replicate 1 0) 0 v6) ≤ 17592186044416) then Option.bind (F83 ((h9, [], ()), ((A ++ List.flatMap fI h10) ++ List.set (List.replicate 1 0) 0 v6, [], ()), ())) fun (y : Bool × Unit) => bif bif z4_22 then y.1 else false then Option.bind (F31 (h0.1, ())) fun (y : List Int × List Int × Int × Unit) => T17_8 0 y.2.2.1 true h0 y.1 h8 y.2.1 (List.set (List.replicate 1 0) 0 (↑(List.length y.1) : Int)) k else T17_2 h0.1.2.1 0 h0.1.2.1 h0.1.2.1 h0.1 false h0 h0 h8 (List.set (List.replicate 1 0) 0 h0.1.1 ++ List.set (List.replicate 1 0) 0 (↑(List.length h0.1.2.1) : Int)) k else none : Option (denL [.bool])) = some y) : Ev fun k => T17_7 0 v6 z4_22 h0 h7 h8 h9 h10 A k = some y :=
 put_loop (T := fun i A k => T17_7 (i : Int) v6 z4_22 h0 h7 h8 h9 h10 A k) fI h10 0 17592186044416 (fun i A hi hA h => R17_7 _ _ _ _ _ _ _ _ _ (Ev.eq (fun _ => bif_t (by omega) _ _) (Ev.eq (fun _ => bif_tt (by omega) (by omega) _ _) (by
  simp only [fI, List.length_cons, List.length_nil] at hA
  simp (disch := first | omega | (simp only [one_set, List.length_append, List.length_cons, List.length_nil]; omega)) only [bif_t, wrap_succ2]
  simp only [one_set, Int.toNat_natCast]
  exact h)))) hA (R17_7 _ _ _ _ _ _ _ _ _ (Ev.eq (fun _ => bif_f (by omega) _ _) h))
theorem st17_8 (v6 : Int) (z4_26 : Bool) (h0 : ((Int × (List (Int × Int × Unit)) × Unit) × Int × Int × Unit)) (h7 : (List Int)) (h8 : (List Int)) (h9 : (List Int)) (A : List Int) {y : denL [.bool]} (hA : List.length A + (List.flatMap fI h7).length ≤ 17592186044416) (hl : List.length h7 < 4611686018427387904) (h : Ev fun k =>
 (bif decide (List.length (A ++ List.flatMap fI h7) + List.length (List.set (List.replicate 1 0) 0 (↑(List.length h9) : Int)) ≤ 17592186044416) then T17_9 0 v6 z4_26 h0 h7 h8 h9 ((A ++ List.flatMap fI h7) ++ List.set (List.replicate 1 0) 0 (↑(List.length h9) : Int)) k else none : Option (denL [.bool])) = some y) : Ev fun k => T17_8 0 v6 z4_26 h0 h7 h8 h9 A k = some y :=
 put_loop (T := fun i A k => T17_8 (i : Int) v6 z4_26 h0 h7 h8 h9 A k) fI h7 0 17592186044416 (fun i A hi hA h => R17_8 _ _ _ _ _ _ _ _ (Ev.eq (fun _ => bif_t (by omega) _ _) (Ev.eq (fun _ => bif_tt (by omega) (by omega) _ _) (by
  simp only [fI, List.length_cons, List.length_nil] at hA
  simp (disch := first | omega | (simp only [one_set, List.length_append, List.length_cons, List.length_nil]; omega)) only [bif_t, wrap_succ2]
  simp only [one_set, Int.toNat_natCast]
  exact h)))) hA (R17_8 _ _ _ _ _ _ _ _ (Ev.eq (fun _ => bif_f (by omega) _ _) h))
theorem st17_9 (v6 : Int) (z4_26 : Bool) (h0 : ((Int × (List (Int × Int × Unit)) × Unit) × Int × Int × Unit)) (h7 : (List Int)) (h8 : (List Int)) (h9 : (List Int)) (A : List Int) {y : denL [.bool]} (hA : List.length A + (List.flatMap fI h9).length ≤ 17592186044416) (hl : List.length h9 < 4611686018427387904) (h : Ev fun k =>
 (bif decide (List.length (A ++ List.flatMap fI h9) + List.length (List.set (List.replicate 1 0) 0 v6) ≤ 17592186044416) then T17_10 0 z4_26 h0 h7 h8 h9 ((A ++ List.flatMap fI h9) ++ List.set (List.replicate 1 0) 0 v6) k else none : Option (denL [.bool])) = some y) : Ev fun k => T17_9 0 v6 z4_26 h0 h7 h8 h9 A k = some y :=
 put_loop (T := fun i A k => T17_9 (i : Int) v6 z4_26 h0 h7 h8 h9 A k) fI h9 0 17592186044416 (fun i A hi hA h => R17_9 _ _ _ _ _ _ _ _ (Ev.eq (fun _ => bif_t (by omega) _ _) (Ev.eq (fun _ => bif_tt (by omega) (by omega) _ _) (by
  simp only [fI, List.length_cons, List.length_nil] at hA
  simp (disch := first | omega | (simp only [one_set, List.length_append, List.length_cons, List.length_nil]; omega)) only [bif_t, wrap_succ2]
  simp only [one_set, Int.toNat_natCast]
  exact h)))) hA (R17_9 _ _ _ _ _ _ _ _ (Ev.eq (fun _ => bif_f (by omega) _ _) h))
theorem st17_10 (z4_26 : Bool) (h0 : ((Int × (List (Int × Int × Unit)) × Unit) × Int × Int × Unit)) (h7 : (List Int)) (h8 : (List Int)) (h9 : (List Int)) (h10 : (List Int)) {y : denL [.bool]} (hl : List.length h7 < 4611686018427387904) (h : ∀ lw : List Int, List.length lw = List.length h7 → Ev fun k =>
 (T17_11 0 z4_26 h0 lw h8 h9 h10 k : Option (denL [.bool])) = some y) : Ev fun k => T17_10 0 z4_26 h0 h7 h8 h9 h10 k = some y :=
 wipe_loop (T := fun i l k => T17_10 (i : Int) z4_26 h0 l h8 h9 h10 k) (-77) h7 (fun i l hl0 hi h => R17_10 _ _ _ _ _ _ _ (Ev.eq (fun _ => bif_t (by omega) _ _) (Ev.eq (fun _ => bif_tt (by omega) (by omega) _ _) (by
  simp (disch := omega) only [bif_t, Int.toNat_natCast, wrap_succ2]
  exact h)))) (fun l hl0 => R17_10 _ _ _ _ _ _ _ (Ev.eq (fun _ => bif_f (by omega) _ _) (h l hl0)))
theorem st17_11 (z4_26 : Bool) (h0 : ((Int × (List (Int × Int × Unit)) × Unit) × Int × Int × Unit)) (h7 : (List Int)) (h8 : (List Int)) (h9 : (List Int)) (h10 : (List Int)) {y : denL [.bool]} (hl : List.length h9 < 4611686018427387904) (h : Ev fun k =>
 (Option.bind (F31 (h0.1, ())) fun (y : List Int × List Int × Int × Unit) => T17_12 0 y.2.2.1 z4_26 h0 y.1 h8 (List.set (List.replicate 1 0) 0 (↑(List.length y.1) : Int)) y.2.1 h10 k : Option (denL [.bool])) = some y) : Ev fun k => T17_11 0 z4_26 h0 h7 h8 h9 h10 k = some y :=
 wipe_loop (T := fun i l k => T17_11 (i : Int) z4_26 h0 h7 h8 l h10 k) (-77) h9 (fun i l hl0 hi h => R17_11 _ _ _ _ _ _ _ (Ev.eq (fun _ => bif_t (by omega) _ _) (Ev.eq (fun _ => bif_tt (by omega) (by omega) _ _) (by
  simp (disch := omega) only [bif_t, Int.toNat_natCast, wrap_succ2]
  exact h)))) (fun l hl0 => R17_11 _ _ _ _ _ _ _ (Ev.eq (fun _ => bif_f (by omega) _ _) h))
theorem st17_12 (v6 : Int) (z4_26 : Bool) (h0 : ((Int × (List (Int × Int × Unit)) × Unit) × Int × Int × Unit)) (h7 : (List Int)) (h8 : (List Int)) (h10 : (List Int)) (h11 : (List Int)) (A : List Int) {y : denL [.bool]} (hA : List.length A + (List.flatMap fI h7).length ≤ 17592186044416) (hl : List.length h7 < 4611686018427387904) (h : Ev fun k =>
 (bif decide (List.length (A ++ List.flatMap fI h7) + List.length (List.set (List.replicate 1 0) 0 (↑(List.length h10) : Int)) ≤ 17592186044416) then T17_13 0 v6 z4_26 h0 h7 h8 ((A ++ List.flatMap fI h7) ++ List.set (List.replicate 1 0) 0 (↑(List.length h10) : Int)) h10 h11 k else none : Option (denL [.bool])) = some y) : Ev fun k => T17_12 0 v6 z4_26 h0 h7 h8 A h10 h11 k = some y :=
 put_loop (T := fun i A k => T17_12 (i : Int) v6 z4_26 h0 h7 h8 A h10 h11 k) fI h7 0 17592186044416 (fun i A hi hA h => R17_12 _ _ _ _ _ _ _ _ _ (Ev.eq (fun _ => bif_t (by omega) _ _) (Ev.eq (fun _ => bif_tt (by omega) (by omega) _ _) (by
  simp only [fI, List.length_cons, List.length_nil] at hA
  simp (disch := first | omega | (simp only [one_set, List.length_append, List.length_cons, List.length_nil]; omega)) only [bif_t, wrap_succ2]
  simp only [one_set, Int.toNat_natCast]
  exact h)))) hA (R17_12 _ _ _ _ _ _ _ _ _ (Ev.eq (fun _ => bif_f (by omega) _ _) h))
theorem st17_13 (v6 : Int) (z4_26 : Bool) (h0 : ((Int × (List (Int × Int × Unit)) × Unit) × Int × Int × Unit)) (h7 : (List Int)) (h8 : (List Int)) (h10 : (List Int)) (h11 : (List Int)) (A : List Int) {y : denL [.bool]} (hA : List.length A + (List.flatMap fI h10).length ≤ 17592186044416) (hl : List.length h10 < 4611686018427387904) (h : Ev fun k =>
 (bif decide (List.length (A ++ List.flatMap fI h10) + List.length (List.set (List.replicate 1 0) 0 v6) ≤ 17592186044416) then Option.bind (F83 ((h11, [], ()), ((A ++ List.flatMap fI h10) ++ List.set (List.replicate 1 0) 0 v6, [], ()), ())) fun (y : Bool × Unit) => bif bif z4_26 then y.1 else false then Option.bind (F33 (h0.1, ())) fun (y : Int × Int × Int × Unit) => Option.bind (F33 (h0.1, ())) fun (y_1 : Int × Int × Int × Unit) => Option.bind (F83 ((List.set (List.replicate 1 0) 0 y.1 ++ List.set (List.replicate 1 0) 0 y.2.1 ++ List.set (List.replicate 1 0) 0 y.2.2.1, [], ()), (List.set (List.replicate 1 0) 0 y_1.1 ++ List.set (List.replicate 1 0) 0 y_1.2.1 ++ List.set (List.replicate 1 0) 0 y_1.2.2.1, [], ()), ())) fun (y : Bool × Unit) => bif y.1 then Option.bind (F35 (h0.1, ())) fun (y : List Int × Int × Unit) => T17_14 0 y.2.1 true h0 y.1 h8 (List.set (List.replicate 1 0) 0 (↑(List.length y.1) : Int)) k else T17_2 h0.1.2.1 0 h0.1.2.1 h0.1.2.1 h0.1 false h0 h0 h8 (List.set (List.replicate 1 0) 0 h0.1.1 ++ List.set (List.replicate 1 0) 0 (↑(List.length h0.1.2.1) : Int)) k else T17_2 h0.1.2.1 0 h0.1.2.1 h0.1.2.1 h0.1 false h0 h0 h8 (List.set (List.replicate 1 0) 0 h0.1.1 ++ List.set (List.replicate 1 0) 0 (↑(List.length h0.1.2.1) : Int)) k else none : Option (denL [.bool])) = some y) : Ev fun k => T17_13 0 v6 z4_26 h0 h7 h8 A h10 h11 k = some y :=
 put_loop (T := fun i A k => T17_13 (i : Int) v6 z4_26 h0 h7 h8 A h10 h11 k) fI h10 0 17592186044416 (fun i A hi hA h => R17_13 _ _ _ _ _ _ _ _ _ (Ev.eq (fun _ => bif_t (by omega) _ _) (Ev.eq (fun _ => bif_tt (by omega) (by omega) _ _) (by
  simp only [fI, List.length_cons, List.length_nil] at hA
  simp (disch := first | omega | (simp only [one_set, List.length_append, List.length_cons, List.length_nil]; omega)) only [bif_t, wrap_succ2]
  simp only [one_set, Int.toNat_natCast]
  exact h)))) hA (R17_13 _ _ _ _ _ _ _ _ _ (Ev.eq (fun _ => bif_f (by omega) _ _) h))
theorem st17_14 (v5 : Int) (z4_34 : Bool) (h0 : ((Int × (List (Int × Int × Unit)) × Unit) × Int × Int × Unit)) (h6 : (List Int)) (h7 : (List Int)) (A : List Int) {y : denL [.bool]} (hA : List.length A + (List.flatMap fI h6).length ≤ 17592186044416) (hl : List.length h6 < 4611686018427387904) (h : Ev fun k =>
 (bif decide (List.length (A ++ List.flatMap fI h6) + List.length (List.set (List.replicate 1 0) 0 v5) ≤ 17592186044416) then T17_15 0 z4_34 h0 h6 h7 ((A ++ List.flatMap fI h6) ++ List.set (List.replicate 1 0) 0 v5) k else none : Option (denL [.bool])) = some y) : Ev fun k => T17_14 0 v5 z4_34 h0 h6 h7 A k = some y :=
 put_loop (T := fun i A k => T17_14 (i : Int) v5 z4_34 h0 h6 h7 A k) fI h6 0 17592186044416 (fun i A hi hA h => R17_14 _ _ _ _ _ _ _ (Ev.eq (fun _ => bif_t (by omega) _ _) (Ev.eq (fun _ => bif_tt (by omega) (by omega) _ _) (by
  simp only [fI, List.length_cons, List.length_nil] at hA
  simp (disch := first | omega | (simp only [one_set, List.length_append, List.length_cons, List.length_nil]; omega)) only [bif_t, wrap_succ2]
  simp only [one_set, Int.toNat_natCast]
  exact h)))) hA (R17_14 _ _ _ _ _ _ _ (Ev.eq (fun _ => bif_f (by omega) _ _) h))
theorem st17_15 (z4_34 : Bool) (h0 : ((Int × (List (Int × Int × Unit)) × Unit) × Int × Int × Unit)) (h6 : (List Int)) (h7 : (List Int)) (h8 : (List Int)) {y : denL [.bool]} (hl : List.length h6 < 4611686018427387904) (h : Ev fun k =>
 (Option.bind (F35 (h0.1, ())) fun (y : List Int × Int × Unit) => T17_16 0 y.2.1 z4_34 h0 y.1 h7 (List.set (List.replicate 1 0) 0 (↑(List.length y.1) : Int)) h8 k : Option (denL [.bool])) = some y) : Ev fun k => T17_15 0 z4_34 h0 h6 h7 h8 k = some y :=
 wipe_loop (T := fun i l k => T17_15 (i : Int) z4_34 h0 l h7 h8 k) (-77) h6 (fun i l hl0 hi h => R17_15 _ _ _ _ _ _ (Ev.eq (fun _ => bif_t (by omega) _ _) (Ev.eq (fun _ => bif_tt (by omega) (by omega) _ _) (by
  simp (disch := omega) only [bif_t, Int.toNat_natCast, wrap_succ2]
  exact h)))) (fun l hl0 => R17_15 _ _ _ _ _ _ (Ev.eq (fun _ => bif_f (by omega) _ _) h))
theorem st17_16 (v5 : Int) (z4_34 : Bool) (h0 : ((Int × (List (Int × Int × Unit)) × Unit) × Int × Int × Unit)) (h6 : (List Int)) (h7 : (List Int)) (h9 : (List Int)) (A : List Int) {y : denL [.bool]} (hA : List.length A + (List.flatMap fI h6).length ≤ 17592186044416) (hl : List.length h6 < 4611686018427387904) (h : Ev fun k =>
 (bif decide (List.length (A ++ List.flatMap fI h6) + List.length (List.set (List.replicate 1 0) 0 v5) ≤ 17592186044416) then Option.bind (F83 ((h9, [], ()), ((A ++ List.flatMap fI h6) ++ List.set (List.replicate 1 0) 0 v5, [], ()), ())) fun (y : Bool × Unit) => T17_2 h0.1.2.1 0 h0.1.2.1 h0.1.2.1 h0.1 (bif z4_34 then y.1 else false) h0 h0 h7 (List.set (List.replicate 1 0) 0 h0.1.1 ++ List.set (List.replicate 1 0) 0 (↑(List.length h0.1.2.1) : Int)) k else none : Option (denL [.bool])) = some y) : Ev fun k => T17_16 0 v5 z4_34 h0 h6 h7 A h9 k = some y :=
 put_loop (T := fun i A k => T17_16 (i : Int) v5 z4_34 h0 h6 h7 A h9 k) fI h6 0 17592186044416 (fun i A hi hA h => R17_16 _ _ _ _ _ _ _ _ (Ev.eq (fun _ => bif_t (by omega) _ _) (Ev.eq (fun _ => bif_tt (by omega) (by omega) _ _) (by
  simp only [fI, List.length_cons, List.length_nil] at hA
  simp (disch := first | omega | (simp only [one_set, List.length_append, List.length_cons, List.length_nil]; omega)) only [bif_t, wrap_succ2]
  simp only [one_set, Int.toNat_natCast]
  exact h)))) hA (R17_16 _ _ _ _ _ _ _ _ (Ev.eq (fun _ => bif_f (by omega) _ _) h))
theorem len_wrongN (c : Int × List Sp × Unit) (hs : List Int) : ∀ (e set : Nat) (best : List Int) (found : Bool), best.length ≤ hs.length → (wrongN c hs e set best found).1.length ≤ hs.length
 | 0, _, _, _, h => h
 | e + 1, set, best, found, h => by
  unfold wrongN
  split
  ·exact len_wrongN c hs e (set + 1) best found h
  ·split
   ·exact len_wrongN c hs e (set + 1) _ true (selN_len hs set hs.length)
   ·exact len_wrongN c hs e (set + 1) best found h
theorem L17 (x : (Int × List Sp × Unit) × Int × Int × Unit) (hx : x.1.2.1.length * 16 ≤ 140737488351232) : F17 (x, ()) = some (true, ()) := by
 obtain ⟨⟨stp, B, u⟩, day, num, u'⟩ := x
 simp only at hx
 have hB := putL_len fDy 2 (fun _ => rfl) B
 apply N17
 simp only [one_set, List.cons_append, List.nil_append]
 generalize hs : ((stp, B, u) : Int × List Sp × Unit) = s
 generalize hxx : ((s, day, num, u') : (Int × List Sp × Unit) × Int × Int × Unit) = x
 have e1 : s.1 = stp := by rw [← hs]
 have e2 : s.2.1 = B := by rw [← hs]
 have x1 : x.1 = s := by rw [← hxx]
 have x2 : x.2.1 = day := by rw [← hxx]
 have x3 : x.2.2.1 = num := by rw [← hxx]
 have l18 : F18 (s, ()) = some (chk s) := L18 s
 have l20 : F20 (s, day, ()) = some (numP s day) := L20 s day
 have l23 : F23 (s, ()) = some (monthP s) := L23 s
 have l25 : F25 (s, day, num, ()) = some (toldP s day num) := L25 s day num
 have l28 : F28 (s, ()) = some (topsP s) := L28 s
 have l31 : F31 (s, ()) = some (risesP s) := L31 s
 have l33 : F33 (s, ()) = some (askP s) := L33 s
 have l35 : F35 (s, ()) = some (wrongP s) := L35 s
 have hBl : s.2.1.length ≤ 8796093021952 := by rw [e2]; omega
 have h28 : (topsP s).1.length ≤ 8796093021952 ∧ (topsP s).2.1.length ≤ 8796093021952 := by
  unfold topsP
  split
  ·exact ⟨by simp, by simp⟩
  ·exact ⟨Nat.le_trans (numsL_len _ _) hBl, Nat.le_trans (numsL_len _ _) hBl⟩
 have h31 : (risesP s).1.length ≤ 8796093021952 ∧ (risesP s).2.1.length ≤ 8796093021952 := by
  unfold risesP
  split
  ·exact ⟨by simp, by simp⟩
  ·exact ⟨Nat.le_trans (numsL_len _ _) hBl, Nat.le_trans (numsL_len _ _) hBl⟩
 have h35 : (wrongP s).1.length ≤ 8796093021952 := by
  unfold wrongP
  split
  ·simp
  ·split
   ·exact Nat.le_trans (Nat.le_trans (len_wrongN s _ _ 0 [] false (Nat.zero_le _)) (numsL_len _ _)) hBl
   ·simp
 have h28s : (topsP s).1.length + (topsP s).2.1.length ≤ 17592186043904 := by omega
 have h31s : (risesP s).1.length + (risesP s).2.1.length ≤ 17592186043904 := by omega
 generalize hW : (stp :: (B.length : Int) :: (B.flatMap fDy ++ [day, num]) : List Int) = W
 have hWl : W.length ≤ 1152921504606846976 := by
  rw [← hW]
  simp only [List.length_append, List.length_cons, List.length_nil, hB]
  omega
 have is : Ev fun k => T17_2 B 0 B B s true x x W [stp, (B.length : Int)] k = some (true, ()) := by
  apply st17_2
  ·rw [hB]; simp only [List.length_cons, List.length_nil]; omega
  ·omega
  simp only [x2, x3]
  simp (disch := first | omega | (simp only [one_set, List.length_append, List.length_cons, List.length_nil, hB]; omega)) only [bif_t, bif_tru]
  simp only [one_set, List.append_assoc, List.cons_append, List.nil_append]
  rw [show (stp :: (B.length : Int) :: (B.flatMap fDy ++ [day, num]) : List Int) = W from hW, L83 _ hWl]
  simp only [Option.bind_some, bif_tru, L22]
  exact Ev.all fun _ => trivial
 have s35 : Ev fun k => T17_14 0 (wrongP s).2.1 true x (wrongP s).1 W [((wrongP s).1.length : Int)] k = some (true, ()) := by
  have hl := putL_len fI 1 (fun _ => rfl) (wrongP s).1
  apply st17_14
  ·rw [hl]; simp only [List.length_cons, List.length_nil]; omega
  ·omega
  simp (disch := first | omega | (simp only [one_set, List.length_append, List.length_cons, List.length_nil, hB, hl]; omega)) only [bif_t]
  apply st17_15
  ·omega
  simp only [x1, l35, Option.bind_some]
  apply st17_16
  ·rw [hl]; simp only [one_set, List.length_cons, List.length_nil]; omega
  ·omega
  simp (disch := first | omega | (simp only [one_set, List.length_append, List.length_cons, List.length_nil, hB, hl]; omega)) only [bif_t, bif_tru]
  simp only [one_set, List.cons_append, List.nil_append]
  rw [L83 _ (by simp only [List.length_append, List.length_cons, List.length_nil, hl]; omega)]
  simp only [Option.bind_some, x1, e1, e2]
  exact is
 have s31 : Ev fun k => T17_8 0 (risesP s).2.2.1 true x (risesP s).1 W (risesP s).2.1 [((risesP s).1.length : Int)] k = some (true, ()) := by
  have hl := putL_len fI 1 (fun _ => rfl) (risesP s).1
  have hm := putL_len fI 1 (fun _ => rfl) (risesP s).2.1
  apply st17_8
  ·rw [hl]; simp only [List.length_cons, List.length_nil]; omega
  ·omega
  simp (disch := first | omega | (simp only [one_set, List.length_append, List.length_cons, List.length_nil, hB, hl, hm]; omega)) only [bif_t]
  apply st17_9
  ·rw [hm]; simp only [one_set, List.length_append, List.length_cons, List.length_nil, hl]; omega
  ·omega
  simp (disch := first | omega | (simp only [one_set, List.length_append, List.length_cons, List.length_nil, hB, hl, hm]; omega)) only [bif_t]
  apply st17_10
  ·omega
  intro lw hlw
  apply st17_11
  ·omega
  simp only [x1, l31, Option.bind_some]
  apply st17_12
  ·rw [hl]; simp only [one_set, List.length_cons, List.length_nil]; omega
  ·omega
  simp (disch := first | omega | (simp only [one_set, List.length_append, List.length_cons, List.length_nil, hB, hl, hm]; omega)) only [bif_t]
  apply st17_13
  ·rw [hm]; simp only [one_set, List.length_append, List.length_cons, List.length_nil, hl]; omega
  ·omega
  simp (disch := first | omega | (simp only [one_set, List.length_append, List.length_cons, List.length_nil, hB, hl, hm]; omega)) only [bif_t, bif_tru]
  simp only [one_set, List.cons_append, List.nil_append]
  rw [L83 _ (by simp only [List.length_append, List.length_cons, List.length_nil, hl, hm]; omega)]
  simp only [Option.bind_some, bif_tru, x1, e1, e2, l33, l35, L83 _ (show List.length [_, _, _] ≤ 1152921504606846976 by simp)]
  exact s35
 have s28 : Ev fun k => T17_1 0 (topsP s).2.2.1 true x (topsP s).1 W [((topsP s).1.length : Int)] (topsP s).2.1 k = some (true, ()) := by
  have hl := putL_len fI 1 (fun _ => rfl) (topsP s).1
  have hm := putL_len fI 1 (fun _ => rfl) (topsP s).2.1
  apply st17_1
  ·rw [hl]; simp only [List.length_cons, List.length_nil]; omega
  ·omega
  simp (disch := first | omega | (simp only [one_set, List.length_append, List.length_cons, List.length_nil, hB, hl, hm]; omega)) only [bif_t]
  apply st17_3
  ·rw [hm]; simp only [one_set, List.length_append, List.length_cons, List.length_nil, hl]; omega
  ·omega
  simp (disch := first | omega | (simp only [one_set, List.length_append, List.length_cons, List.length_nil, hB, hl, hm]; omega)) only [bif_t]
  apply st17_4
  ·omega
  intro lw hlw
  apply st17_5
  ·omega
  simp only [x1, l28, Option.bind_some]
  apply st17_6
  ·rw [hl]; simp only [one_set, List.length_cons, List.length_nil]; omega
  ·omega
  simp (disch := first | omega | (simp only [one_set, List.length_append, List.length_cons, List.length_nil, hB, hl, hm]; omega)) only [bif_t]
  apply st17_7
  ·rw [hm]; simp only [one_set, List.length_append, List.length_cons, List.length_nil, hl]; omega
  ·omega
  simp (disch := first | omega | (simp only [one_set, List.length_append, List.length_cons, List.length_nil, hB, hl, hm]; omega)) only [bif_t, bif_tru]
  simp only [one_set, List.cons_append, List.nil_append]
  rw [L83 _ (by simp only [List.length_append, List.length_cons, List.length_nil, hl, hm]; omega)]
  simp only [Option.bind_some, bif_tru, x1, e1, e2, l31]
  exact s31
 apply st17_0
 ·rw [hB]; simp only [List.length_cons, List.length_nil]; omega
 ·omega
 simp only [x2, x3]
 simp (disch := first | omega | (simp only [one_set, List.length_append, List.length_cons, List.length_nil, hB]; omega)) only [bif_t]
 simp only [one_set, List.append_assoc, List.cons_append, List.nil_append]
 rw [show (stp :: (B.length : Int) :: (B.flatMap fDy ++ [day, num]) : List Int) = W from hW]
 simp only [Option.bind_some, bif_tru, x1, l18, l20, l23, l25, l28, L83 _ (show List.length [_, _, _, _, _] ≤ 1152921504606846976 by simp), L83 _ (show List.length [_, _, _] ≤ 1152921504606846976 by simp)]
 exact s28
end Go.Proofs.YtjigflnjgmgmnaaDoor
/- The context for TopAnewCloud is the program's; how long a month's list is. Conditions: as each lemma states. -/
namespace Go.Proofs.YtjigflnjgmgmnaaDoor
open Go Go.Gh Go.ChangeShapes Go.WideShapes Go.ChangeAt Go.RowKit
theorem memo_plain (i : Nat) (mm : Memo) (h : memoC i = some mm) : plainT mm.val = true := by
 unfold memoC at h
 cases hq : Nat.beq i 0 with
 | true =>
  rw [hq] at h
  cases h
  rfl
 | false => rw [hq] at h; cases h
theorem ok83 : CtxOK' cx83 := CtxOK'.add ok22 (f := 83) (c := C83) (ghost_ok ok22 S83 6000 83 _ _) (fn_is (List.mem_range.2 (by decide)) (by kernel_rfl))
theorem fok28 : FConOK cxK28 28 C28 := ghostF_ok okK28 memo_plain S28 6000 28 _ _ (by kernel_rfl) (by kernel_rfl)
theorem fok31 : FConOK cxK31 31 C31 := ghostF_ok okK31 memo_plain S31 6000 31 _ _ (by kernel_rfl) (by kernel_rfl)
theorem fok35 : FConOK cxK35 35 C35 := ghostF_ok okK35 memo_plain S35 6000 35 _ _ (by kernel_rfl) (by kernel_rfl)
theorem ctx_is {cx : Ctx} (h : cx.P = Tryd.prog ∧ cx.glob = globs ∧ cx.memo = memoC) {cx' : Ctx} (h' : cx'.P = Tryd.prog ∧ cx'.glob = globs ∧ cx'.memo = memoC) {f : FuncId} {c : Con} (hc : FConOK cx f c) : FConOK cx' f c :=
 FConOK.ctx (h'.1.trans h.1.symm) (h'.2.1.trans h.2.1.symm) (h'.2.2.trans h.2.2.symm) hc
theorem addF_is {cx : Ctx} (h : cx.P = Tryd.prog ∧ cx.glob = globs ∧ cx.memo = memoC) (f : FuncId) (c : Con) : (cx.addF f c).P = Tryd.prog ∧ (cx.addF f c).glob = globs ∧ (cx.addF f c).memo = memoC := h
theorem is83 : cx83.P = Tryd.prog ∧ cx83.glob = globs ∧ cx83.memo = memoC := ⟨by kernel_rfl, by kernel_rfl, by kernel_rfl⟩
theorem is28 : cxK28.P = Tryd.prog ∧ cxK28.glob = globs ∧ cxK28.memo = memoC := ⟨by kernel_rfl, by kernel_rfl, by kernel_rfl⟩
theorem is31 : cxK31.P = Tryd.prog ∧ cxK31.glob = globs ∧ cxK31.memo = memoC := ⟨by kernel_rfl, by kernel_rfl, by kernel_rfl⟩
theorem is35 : cxK35.P = Tryd.prog ∧ cxK35.glob = globs ∧ cxK35.memo = memoC := ⟨by kernel_rfl, by kernel_rfl, by kernel_rfl⟩
theorem okT28 : CtxOK' (cx83.addF 28 C28) := CtxOK'.addF ok83 (f := 28) (c := C28) (ctx_is is28 is83 fok28) (by rw [is83.1]; exact fn_is (List.mem_range.2 (by decide)) (by kernel_rfl))
theorem okT31 : CtxOK' ((cx83.addF 28 C28).addF 31 C31) := CtxOK'.addF okT28 (f := 31) (c := C31) (ctx_is is31 (addF_is is83 28 C28) fok31) (by rw [(addF_is is83 28 C28).1]; exact fn_is (List.mem_range.2 (by decide)) (by kernel_rfl))
theorem okT35 : CtxOK' (((cx83.addF 28 C28).addF 31 C31).addF 35 C35) := CtxOK'.addF okT31 (f := 35) (c := C35) (ctx_is is35 (addF_is (addF_is is83 28 C28) 31 C31) fok35) (by rw [(addF_is (addF_is is83 28 C28) 31 C31).1]; exact fn_is (List.mem_range.2 (by decide)) (by kernel_rfl))
theorem setTB {cx : Ctx} (h : CtxOK' cx) (a b : Nat → Bool) : CtxOK' { cx with twin := a, big := b } :=
 ⟨⟨⟨h.te, h.con, h.rcon, h.cst⟩, h.map, h.inl, h.mixed, h.globm⟩, h.sub, h.fcon⟩
theorem okT : CtxOK' cxT := setTB okT35 _ _
abbrev tAx : Ty := .struct [tyM, .int .i64, .int .i64]
theorem mo_ty : ∃ g0 g1 g2 f0 f1 : Field, Tryd.prog.underlying 78 = some (.struct #[g0, g1, g2]) ∧ (g0.offset = 0 ∧ g0.type = 24 ∧ Tryd.prog.cellsOf g0.type = 2) ∧ Tryd.prog.underlying 24 = some (.struct #[f0, f1]) ∧ (f1.offset = 1 ∧ f1.type = 22 ∧ Tryd.prog.cellsOf f1.type = 1) ∧ Tryd.prog.underlying 22 = some (.slice 66) ∧ Tryd.prog.bytesOf 66 = 16 :=
 ⟨{ name := "Month", type := 24, offset := 0, embedded := false, tag := "", pkgPath := "", byteOffset := 0 }, { name := "Day", type := 3, offset := 2, embedded := false, tag := "", pkgPath := "", byteOffset := 32 }, { name := "Number", type := 3, offset := 3, embedded := false, tag := "", pkgPath := "", byteOffset := 40 },
   { name := "Step", type := 3, offset := 0, embedded := false, tag := "", pkgPath := "", byteOffset := 0 }, { name := "Days", type := 22, offset := 1, embedded := false, tag := "", pkgPath := "", byteOffset := 8 }, by kernel_rfl, ⟨rfl, rfl, by kernel_rfl⟩, by kernel_rfl, ⟨rfl, rfl, by kernel_rfl⟩, by kernel_rfl, by kernel_rfl⟩
theorem mo_weight {H : Type} {enc : TypeId × Value → H} {W : World} {base : Nat} {spare : Nat → Bool} {held : Bool} {vs : List Value} {ds gs : List (DataW H)} {p : List MemPlace} {x : denL [tAx]}
  (hA : DataW.TrodAll enc Tryd.prog W base spare held [78] vs ds p) (hx : EVL (calm W) [tAx] x vs) (hw : (DataW.weightsEach Tryd.prog [78] (ds ++ gs)).all (· ≤ reachBytes) = true) : List.length x.1.1.2.1 * 16 ≤ 140737488351232 := by
 obtain ⟨v, vs', d, ds', p1, q1, rfl, rfl, rfl, ⟨fuel, h0⟩, _⟩ := trodAll_cons hA
 unfold EVL at hx
 obtain ⟨u, us, he, ⟨cs, h1, h2⟩, _⟩ := hx
 obtain ⟨rfl, _⟩ := List.cons.inj he
 have hcs : v.cells.toList = cs := by
  simp only [ofCells, Ty.isAgg] at h2
  obtain rfl := h2
  simp [Value.cells]
 rw [hcs] at h0
 unfold Enc EncL at h1
 obtain ⟨c1, c2, rfl, h3, h4⟩ := h1
 unfold Enc EncL at h3
 obtain ⟨c5, c6, rfl, h5, h6⟩ := h3
 unfold EncL at h6
 obtain ⟨c7, c8, rfl, h7, h8⟩ := h6
 unfold EncL at h8
 subst h8
 unfold Enc at h5 h7
 subst h5
 obtain ⟨a1, cap1, rfl, _, _⟩ := h7
 obtain ⟨g0, g1, g2, f0, f1, hu, ⟨ho, ht, hc⟩, hu2, ⟨ho2, ht2, hc2⟩, hs, hb⟩ := mo_ty
 obtain ⟨xs, n, _, hd, _, hlen, hf⟩ := DataW.trod_struct hu h0
 have hd : d = .agg (xs.map (·.1)) := congrArg Prod.fst hd
 obtain ⟨y0, y1, y2, rfl⟩ : ∃ y0 y1 y2, xs = [y0, y1, y2] := by
  match xs, hlen with
  | [a, b, c], _ => exact ⟨a, b, c, rfl⟩
 have k0 := hf 0 g0 rfl
 rw [ho, hc, ht] at k0
 simp only [List.cons_append, List.nil_append, List.drop_zero, List.take_succ_cons, List.take_zero, List.getElem?_cons_zero] at k0
 obtain ⟨zs, n2, _, hd2, _, hlen2, hf2⟩ := DataW.trod_struct hu2 k0
 have hd2 : y0.1 = .agg (zs.map (·.1)) := congrArg Prod.fst hd2
 obtain ⟨z0, z1, rfl⟩ : ∃ z0 z1, zs = [z0, z1] := by
  match zs, hlen2 with
  | [a, b], _ => exact ⟨a, b, rfl⟩
 have k1 := hf2 1 f1 rfl
 rw [ho2, hc2, ht2] at k1
 simp only [List.drop_succ_cons, List.drop_zero, List.take_succ_cons, List.take_zero, List.getElem?_cons_succ, List.getElem?_cons_zero] at k1
 rw [hd] at hw
 simp only [List.cons_append, DataW.weightsEach, DataW.weights, hu, hu2, List.map_cons, List.map_nil, hd2, ht, ht2, List.all_append, Bool.and_eq_true] at hw
 rcases Deep.open_slice hs k1 with ⟨e7, _⟩ | ⟨a', len, cap', m, n', D, Pl, e7, _, _, _, _, e8, _⟩
 ·have := (List.cons.inj e7).1
  simp only [Value.slice.injEq] at this
  omega
 ·have e9 := (List.cons.inj e7).1
  simp only [Value.slice.injEq] at e9
  have h10 : z1.1 = .slice ((List.range len).map D) ((List.range (m - len)).map fun j => D (len + j)) := congrArg Prod.fst e8
  simp only [h10, DataW.weights, hs, hb, List.all_append, List.all_cons, Bool.and_eq_true, List.length_map, List.length_range, reachBytes] at hw
  have h11 := of_decide_eq_true hw.1.1.2.1.1
  omega
end Go.Proofs.YtjigflnjgmgmnaaDoor
