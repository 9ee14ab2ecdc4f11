/- Loops that put lists and that write over them. Conditions: as each lemma states. -/
import Derived.Test.YtallblpnlefpeaaGhI
import Derived.Test.YtallblpnlefpeaaRoTr
import Derived.Test.YtallblpnlefpeaaRoE
import Derived.Test.YtallblpnlefpeaaRoAa
import Derived.Test.YtallblpnlefpeaaRoK
import Derived.Test.YtallblpnlefpeaaGhG
namespace Go.Gh
theorem bif_t {α : Type} {p : Prop} [Decidable p] (h : p) (a b : α) : (bif decide p then a else b) = a := by rw [decide_eq_true h]; rfl
theorem bif_f {α : Type} {p : Prop} [Decidable p] (h : ¬ p) (a b : α) : (bif decide p then a else b) = b := by rw [decide_eq_false h]; rfl
theorem bif_tt {α : Type} {p q : Prop} [Decidable p] [Decidable q] (h : p) (h' : q) (a b : α) : (bif decide p && decide q then a else b) = a := by rw [decide_eq_true h, decide_eq_true h']; rfl
theorem bif_tru {α : Type} (a b : α) : (bif true then a else b) = a := rfl
theorem bif_fls {α : Type} (a b : α) : (bif false then a else b) = b := rfl
theorem rep0 (x : Int) : x :: List.replicate 0 0 = [x] := rfl
theorem put_loop {α R : Type} {T : Nat → List Int → Nat → Option R} {y : R} (f : α → List Int) (l : List α) (d : α) (B : Nat)
  (hstep : ∀ i A, i < l.length → List.length A + (f (l.getD i d)).length ≤ B → (Ev fun k => T (i + 1) (A ++ f (l.getD i d)) k = some y) → Ev fun k => T i A k = some y)
  {A : List Int} (hA : A.length + (l.flatMap f).length ≤ B) (h : Ev fun k => T l.length (A ++ l.flatMap f) k = some y) : Ev fun k => T 0 A k = some y := by
 have key : ∀ (c i : Nat) (A : List Int), i + c = l.length → A.length + ((l.drop i).flatMap f).length ≤ B → (Ev fun k => T l.length (A ++ (l.drop i).flatMap f) k = some y) → Ev fun k => T i A k = some y := by
  intro c
  induction c with
  | zero =>
   intro i A hi _ h
   obtain rfl : i = l.length := by omega
   simpa using h
  | succ c ih =>
   intro i A hi hb h
   have hil : i < l.length := by omega
   have e : l.getD i d = l[i] := getD_lt hil
   rw [List.drop_eq_getElem_cons hil, List.flatMap_cons, List.length_append] at hb
   rw [List.drop_eq_getElem_cons hil, List.flatMap_cons] at h
   refine hstep i A hil (by rw [e]; omega) (ih (i + 1) _ (by omega) (by rw [e, List.length_append]; omega) ?_)
   rw [e, List.append_assoc]
   exact h
 exact key l.length 0 A (by omega) (by simpa using hA) (by simpa using h)
theorem wipe_loop {α R : Type} {T : Nat → List α → Nat → Option R} {y : R} (v : α) (l : List α) (hstep : ∀ i l', l'.length = l.length → i < l'.length → (Ev fun k => T (i + 1) (l'.set i v) k = some y) → Ev fun k => T i l' k = some y)
  (h : ∀ l', l'.length = l.length → Ev fun k => T l'.length l' k = some y) : Ev fun k => T 0 l k = some y := by
 have key : ∀ (c i : Nat) (l' : List α), i + c = l'.length → l'.length = l.length → Ev fun k => T i l' k = some y := by
  intro c
  induction c with
  | zero =>
   intro i l' hi hl
   obtain rfl : i = l'.length := by omega
   exact h l' hl
  | succ c ih =>
   intro i l' hi hl
   exact hstep i l' hl (by omega) (ih (i + 1) _ (by rw [List.length_set]; omega) (by rw [List.length_set]; exact hl))
 exact key l.length 0 l (by omega) rfl
theorem putL_len {α : Type} (f : α → List Int) (n : Nat) (hf : ∀ x, (f x).length = n) : ∀ l : List α, (l.flatMap f).length = n * l.length
 | [] => by simp
 | x :: l => by rw [List.flatMap_cons, List.length_append, putL_len f n hf l, hf, List.length_cons, Nat.mul_succ]; omega
theorem scan_mem (ok : List Int → Bool) : ∀ (ls : List (List Int)) (b : List Int) (f : Bool), (Few.scan ok ls b f).1 = b ∨ (Few.scan ok ls b f).1 ∈ ls
 | [], b, f => .inl rfl
 | l :: ls, b, f => by
  unfold Few.scan
  split
  ·rcases scan_mem ok ls b f with h | h
   ·exact .inl h
   ·exact .inr (List.mem_cons_of_mem _ h)
  ·split
   ·rcases scan_mem ok ls l true with h | h
    ·exact .inr (by rw [h]; exact List.mem_cons_self ..)
    ·exact .inr (List.mem_cons_of_mem _ h)
   ·rcases scan_mem ok ls b f with h | h
    ·exact .inl h
    ·exact .inr (List.mem_cons_of_mem _ h)
end Go.Gh
/- No function of package row changes an argument, or keeps what it returns. Conditions: as each lemma states. -/
namespace Go.Proofs.Ytallblpnlefpeaa
open Go Go.Gh Go.Proofs
theorem L75 (n : List Int) (hn : n.length ≤ 4294967296) : F75 ((n, [], ()), (n, [], ()), ()) = some (true, ()) := by
 refine N75 _ _ ?_
 simp only [bne_self_eq_false, bif_fls]
 have key : ∀ (c i : Nat), i + c = n.length → Ev fun k => T75_0 (i : Int) (n, [], ()) (n, [], ()) k = some (true, ()) := by
  intro c
  induction c with
  | zero =>
   intro i hi
   apply R75_0
   simp (disch := omega) only [bif_f]
   apply R75_1
   exact Ev.all fun _ => by first | rfl | trivial
  | succ c ih =>
   intro i hi
   apply R75_0
   have hil : i < n.length := by omega
   simp (disch := omega) only [bif_t, bif_tt, wrap_succ, bne_self_eq_false, bif_fls]
   exact ih (i + 1) (by omega)
 exact key n.length 0 (by omega)
def fRw (x : Rw) : List Int := [x.1, bif x.2.1 then 1 else 0]
def fWy (x : Wy) : List Int := [x.1, x.2.1, x.2.2.1]
def fWs (l : List Wy) : List Int := (l.length : Int) :: l.flatMap fWy
def fI (x : Int) : List Int := [x]
theorem st17_0 (t1 : (List Rw)) (u5 : (List Rw)) (v6 : (List Rw)) (w6 : Bk) (z4_6 : (Bk × Int × Int × Unit)) (h0 : (Bk × Int × Int × Unit)) (h3 : (Bk × Int × Int × Unit)) (h4 : Bk) (A : List Int) {y : denL [.bool]} (hA : List.length A + (List.flatMap fRw t1).length ≤ 2147483648) (hl : List.length t1 < 1000000000000) (h : Ev fun k =>
 (bif decide (List.length (A ++ List.flatMap fRw t1) + List.length (List.set (List.replicate 1 0) 0 (↑(List.length h4.2.1) : Int)) ≤ 2147483648) then T17_1 h4.2.1 0 h4.2.1 h4.2.1 w6 z4_6 h0 h3 ((A ++ List.flatMap fRw t1) ++ List.set (List.replicate 1 0) 0 (↑(List.length h4.2.1) : Int)) k else none : Option (denL [.bool])) = some y) : Ev fun k => T17_0 t1 0 u5 v6 w6 z4_6 h0 h3 h4 A k = some y :=
 put_loop (T := fun i A k => T17_0 t1 (i : Int) u5 v6 w6 z4_6 h0 h3 h4 A k) fRw t1 (0, false, ()) 2147483648 (fun i A hi hA h => R17_0 _ _ _ _ _ _ _ _ _ _ (Ev.eq (fun _ => bif_t (by omega) _ _) (Ev.eq (fun _ => bif_tt (by omega) (by omega) _ _) (by
  simp only [fRw, List.length_cons, List.length_nil] at hA h
  simp only [Int.toNat_natCast]
  cases hb : Prod.fst (Prod.snd (List.getD t1 i (0, false, ()))) with
  | true =>
   rw [hb] at h
   simp (disch := first | omega | (simp only [one_set, List.length_append, List.length_cons, List.length_nil]; omega)) only [bif_t, bif_tru, wrap_succ]
   simp only [one_set, rep0, List.append_assoc, List.cons_append, List.nil_append]
   exact h
  | false =>
   rw [hb] at h
   simp (disch := first | omega | (simp only [one_set, List.length_append, List.length_cons, List.length_nil]; omega)) only [bif_t, bif_fls, wrap_succ]
   simp only [one_set, rep0, List.append_assoc, List.cons_append, List.nil_append]
   exact h)))) hA (R17_0 _ _ _ _ _ _ _ _ _ _ (Ev.eq (fun _ => bif_f (by omega) _ _) h))
theorem st17_2 (t1 : (List Wy)) (u5 : (List Wy)) (v1 : (List (List Wy))) (v6 : Int) (v29 : (List Wy)) (w5 : (List (List Wy))) (z4_10 : (List (List Wy))) (z5_6 : Bk) (z6_6 : (Bk × Int × Int × Unit)) (h0 : (Bk × Int × Int × Unit)) (h3 : (Bk × Int × Int × Unit)) (A : List Int) {y : denL [.bool]} (hA : List.length A + (List.flatMap fWy t1).length ≤ 2147483648) (hl : List.length t1 < 1000000000000) (h : Ev fun k =>
 (T17_1 v1 (IntKind.wrap IntKind.i64 (v6 + 1)) w5 z4_10 z5_6 z6_6 h0 h3 (A ++ List.flatMap fWy t1) k : Option (denL [.bool])) = some y) : Ev fun k => T17_2 t1 0 u5 v1 v6 v29 w5 z4_10 z5_6 z6_6 h0 h3 A k = some y :=
 put_loop (T := fun i A k => T17_2 t1 (i : Int) u5 v1 v6 v29 w5 z4_10 z5_6 z6_6 h0 h3 A k) fWy t1 (0, 0, 0, ()) 2147483648 (fun i A hi hA h => R17_2 _ _ _ _ _ _ _ _ _ _ _ _ _ (Ev.eq (fun _ => bif_t (by omega) _ _) (Ev.eq (fun _ => bif_tt (by omega) (by omega) _ _) (by
  simp only [fWy, List.length_cons, List.length_nil] at hA
  simp (disch := first | omega | (simp only [one_set, List.length_append, List.length_cons, List.length_nil]; omega)) only [bif_t, wrap_succ]
  simp only [one_set, Int.toNat_natCast, List.append_assoc, List.cons_append, List.nil_append]
  exact h)))) hA (R17_2 _ _ _ _ _ _ _ _ _ _ _ _ _ (Ev.eq (fun _ => bif_f (by omega) _ _) h))
theorem st17_3 (v5 : Int) (z4_18 : Bool) (h0 : (Bk × Int × Int × Unit)) (h6 : (List Int)) (h8 : (List Int)) (A : List Int) {y : denL [.bool]} (hA : List.length A + (List.flatMap fI h6).length ≤ 2147483648) (hl : List.length h6 < 1000000000000) (h : Ev fun k =>
 (bif decide (List.length (A ++ List.flatMap fI h6) + List.length (List.set (List.replicate 1 0) 0 v5) ≤ 2147483648) then T17_5 0 z4_18 h0 h6 ((A ++ List.flatMap fI h6) ++ List.set (List.replicate 1 0) 0 v5) h8 k else none : Option (denL [.bool])) = some y) : Ev fun k => T17_3 0 v5 z4_18 h0 h6 A h8 k = some y :=
 put_loop (T := fun i A k => T17_3 (i : Int) v5 z4_18 h0 h6 A h8 k) fI h6 0 2147483648 (fun i A hi hA h => R17_3 _ _ _ _ _ _ _ (Ev.eq (fun _ => bif_t (by omega) _ _) (Ev.eq (fun _ => bif_tt (by omega) (by omega) _ _) (by
  simp only [fI, List.length_cons, List.length_nil] at hA
  simp (disch := first | omega | (simp only [one_set, List.length_append, List.length_cons, List.length_nil]; omega)) only [bif_t, wrap_succ]
  simp only [one_set, Int.toNat_natCast]
  exact h)))) hA (R17_3 _ _ _ _ _ _ _ (Ev.eq (fun _ => bif_f (by omega) _ _) h))
theorem st17_4 (t1 : (List Rw)) (u5 : (List Rw)) (v6 : (List Rw)) (w6 : Bk) (z4_5 : Bool) (z4_42 : (Bk × Int × Int × Unit)) (h2 : (Bk × Int × Int × Unit)) (h3 : Bk) (h4 : (List Int)) (A : List Int) {y : denL [.bool]} (hA : List.length A + (List.flatMap fRw t1).length ≤ 2147483648) (hl : List.length t1 < 1000000000000) (h : Ev fun k =>
 (bif decide (List.length (A ++ List.flatMap fRw t1) + List.length (List.set (List.replicate 1 0) 0 (↑(List.length h3.2.1) : Int)) ≤ 2147483648) then T17_6 h3.2.1 0 h3.2.1 h3.2.1 w6 z4_5 z4_42 h2 h4 ((A ++ List.flatMap fRw t1) ++ List.set (List.replicate 1 0) 0 (↑(List.length h3.2.1) : Int)) k else none : Option (denL [.bool])) = some y) : Ev fun k => T17_4 t1 0 u5 v6 w6 z4_5 z4_42 h2 h3 h4 A k = some y :=
 put_loop (T := fun i A k => T17_4 t1 (i : Int) u5 v6 w6 z4_5 z4_42 h2 h3 h4 A k) fRw t1 (0, false, ()) 2147483648 (fun i A hi hA h => R17_4 _ _ _ _ _ _ _ _ _ _ _ (Ev.eq (fun _ => bif_t (by omega) _ _) (Ev.eq (fun _ => bif_tt (by omega) (by omega) _ _) (by
  simp only [fRw, List.length_cons, List.length_nil] at hA h
  simp only [Int.toNat_natCast]
  cases hb : Prod.fst (Prod.snd (List.getD t1 i (0, false, ()))) with
  | true =>
   rw [hb] at h
   simp (disch := first | omega | (simp only [one_set, List.length_append, List.length_cons, List.length_nil]; omega)) only [bif_t, bif_tru, wrap_succ]
   simp only [one_set, rep0, List.append_assoc, List.cons_append, List.nil_append]
   exact h
  | false =>
   rw [hb] at h
   simp (disch := first | omega | (simp only [one_set, List.length_append, List.length_cons, List.length_nil]; omega)) only [bif_t, bif_fls, wrap_succ]
   simp only [one_set, rep0, List.append_assoc, List.cons_append, List.nil_append]
   exact h)))) hA (R17_4 _ _ _ _ _ _ _ _ _ _ _ (Ev.eq (fun _ => bif_f (by omega) _ _) h))
theorem st17_5 (z4_18 : Bool) (h0 : (Bk × Int × Int × Unit)) (h6 : (List Int)) (h7 : (List Int)) (h8 : (List Int)) {y : denL [.bool]} (hl : List.length h6 < 1000000000000) (h : Ev fun k =>
 (Option.bind (F25 (h0.1, h0.2.2.1, ())) fun (y : List Int × Int × Unit) => T17_7 0 y.2.1 z4_18 h0 y.1 h7 h8 (List.set (List.replicate 1 0) 0 (↑(List.length y.1) : Int)) k : Option (denL [.bool])) = some y) : Ev fun k => T17_5 0 z4_18 h0 h6 h7 h8 k = some y :=
 wipe_loop (T := fun i l k => T17_5 (i : Int) z4_18 h0 l h7 h8 k) (-77) h6 (fun i l hl0 hi h => R17_5 _ _ _ _ _ _ (Ev.eq (fun _ => bif_t (by omega) _ _) (Ev.eq (fun _ => bif_tt (by omega) (by omega) _ _) (by
  simp (disch := omega) only [bif_t, Int.toNat_natCast, wrap_succ]
  exact h)))) (fun l hl0 => R17_5 _ _ _ _ _ _ (Ev.eq (fun _ => bif_f (by omega) _ _) h))
theorem st17_7 (v5 : Int) (z4_18 : Bool) (h0 : (Bk × Int × Int × Unit)) (h6 : (List Int)) (h7 : (List Int)) (h8 : (List Int)) (A : List Int) {y : denL [.bool]} (hA : List.length A + (List.flatMap fI h6).length ≤ 2147483648) (hl : List.length h6 < 1000000000000) (h : Ev fun k =>
 (bif decide (List.length (A ++ List.flatMap fI h6) + List.length (List.set (List.replicate 1 0) 0 v5) ≤ 2147483648) then Option.bind (F75 ((h7, [], ()), ((A ++ List.flatMap fI h6) ++ List.set (List.replicate 1 0) 0 v5, [], ()), ())) fun (y : Bool × Unit) => bif bif z4_18 then y.1 else false then Option.bind (F28 (h0.1, h0.2.2.1, ())) fun (y : List Int × Int × Unit) => T17_9 0 y.2.1 true h0 y.1 h8 (List.set (List.replicate 1 0) 0 (↑(List.length y.1) : Int)) k else T17_4 h0.1.1 0 h0.1.1 h0.1.1 h0.1 false h0 h0 h0.1 h8 (List.set (List.replicate 1 0) 0 (↑(List.length h0.1.1) : Int)) k else none : Option (denL [.bool])) = some y) : Ev fun k => T17_7 0 v5 z4_18 h0 h6 h7 h8 A k = some y :=
 put_loop (T := fun i A k => T17_7 (i : Int) v5 z4_18 h0 h6 h7 h8 A k) fI h6 0 2147483648 (fun i A hi hA h => R17_7 _ _ _ _ _ _ _ _ (Ev.eq (fun _ => bif_t (by omega) _ _) (Ev.eq (fun _ => bif_tt (by omega) (by omega) _ _) (by
  simp only [fI, List.length_cons, List.length_nil] at hA
  simp (disch := first | omega | (simp only [one_set, List.length_append, List.length_cons, List.length_nil]; omega)) only [bif_t, wrap_succ]
  simp only [one_set, Int.toNat_natCast]
  exact h)))) hA (R17_7 _ _ _ _ _ _ _ _ (Ev.eq (fun _ => bif_f (by omega) _ _) h))
theorem st17_8 (t1 : (List Wy)) (u5 : (List Wy)) (v1 : (List (List Wy))) (v6 : Int) (v29 : (List Wy)) (w5 : (List (List Wy))) (z4_10 : (List (List Wy))) (z5_6 : Bk) (z6_5 : Bool) (z6_42 : (Bk × Int × Int × Unit)) (h2 : (Bk × Int × Int × Unit)) (h3 : (List Int)) (A : List Int) {y : denL [.bool]} (hA : List.length A + (List.flatMap fWy t1).length ≤ 2147483648) (hl : List.length t1 < 1000000000000) (h : Ev fun k =>
 (T17_6 v1 (IntKind.wrap IntKind.i64 (v6 + 1)) w5 z4_10 z5_6 z6_5 z6_42 h2 h3 (A ++ List.flatMap fWy t1) k : Option (denL [.bool])) = some y) : Ev fun k => T17_8 t1 0 u5 v1 v6 v29 w5 z4_10 z5_6 z6_5 z6_42 h2 h3 A k = some y :=
 put_loop (T := fun i A k => T17_8 t1 (i : Int) u5 v1 v6 v29 w5 z4_10 z5_6 z6_5 z6_42 h2 h3 A k) fWy t1 (0, 0, 0, ()) 2147483648 (fun i A hi hA h => R17_8 _ _ _ _ _ _ _ _ _ _ _ _ _ _ (Ev.eq (fun _ => bif_t (by omega) _ _) (Ev.eq (fun _ => bif_tt (by omega) (by omega) _ _) (by
  simp only [fWy, List.length_cons, List.length_nil] at hA
  simp (disch := first | omega | (simp only [one_set, List.length_append, List.length_cons, List.length_nil]; omega)) only [bif_t, wrap_succ]
  simp only [one_set, Int.toNat_natCast, List.append_assoc, List.cons_append, List.nil_append]
  exact h)))) hA (R17_8 _ _ _ _ _ _ _ _ _ _ _ _ _ _ (Ev.eq (fun _ => bif_f (by omega) _ _) h))
theorem st17_9 (v5 : Int) (z4_22 : Bool) (h0 : (Bk × Int × Int × Unit)) (h6 : (List Int)) (h7 : (List Int)) (A : List Int) {y : denL [.bool]} (hA : List.length A + (List.flatMap fI h6).length ≤ 2147483648) (hl : List.length h6 < 1000000000000) (h : Ev fun k =>
 (bif decide (List.length (A ++ List.flatMap fI h6) + List.length (List.set (List.replicate 1 0) 0 v5) ≤ 2147483648) then T17_10 0 z4_22 h0 h6 h7 ((A ++ List.flatMap fI h6) ++ List.set (List.replicate 1 0) 0 v5) k else none : Option (denL [.bool])) = some y) : Ev fun k => T17_9 0 v5 z4_22 h0 h6 h7 A k = some y :=
 put_loop (T := fun i A k => T17_9 (i : Int) v5 z4_22 h0 h6 h7 A k) fI h6 0 2147483648 (fun i A hi hA h => R17_9 _ _ _ _ _ _ _ (Ev.eq (fun _ => bif_t (by omega) _ _) (Ev.eq (fun _ => bif_tt (by omega) (by omega) _ _) (by
  simp only [fI, List.length_cons, List.length_nil] at hA
  simp (disch := first | omega | (simp only [one_set, List.length_append, List.length_cons, List.length_nil]; omega)) only [bif_t, wrap_succ]
  simp only [one_set, Int.toNat_natCast]
  exact h)))) hA (R17_9 _ _ _ _ _ _ _ (Ev.eq (fun _ => bif_f (by omega) _ _) h))
theorem st17_10 (z4_22 : Bool) (h0 : (Bk × Int × Int × Unit)) (h6 : (List Int)) (h7 : (List Int)) (h8 : (List Int)) {y : denL [.bool]} (hl : List.length h6 < 1000000000000) (h : Ev fun k =>
 (Option.bind (F28 (h0.1, h0.2.2.1, ())) fun (y : List Int × Int × Unit) => T17_11 0 y.2.1 z4_22 h0 y.1 (List.set (List.replicate 1 0) 0 (↑(List.length y.1) : Int)) h7 h8 k : Option (denL [.bool])) = some y) : Ev fun k => T17_10 0 z4_22 h0 h6 h7 h8 k = some y :=
 wipe_loop (T := fun i l k => T17_10 (i : Int) z4_22 h0 l h7 h8 k) (-77) h6 (fun i l hl0 hi h => R17_10 _ _ _ _ _ _ (Ev.eq (fun _ => bif_t (by omega) _ _) (Ev.eq (fun _ => bif_tt (by omega) (by omega) _ _) (by
  simp (disch := omega) only [bif_t, Int.toNat_natCast, wrap_succ]
  exact h)))) (fun l hl0 => R17_10 _ _ _ _ _ _ (Ev.eq (fun _ => bif_f (by omega) _ _) h))
theorem st17_11 (v5 : Int) (z4_22 : Bool) (h0 : (Bk × Int × Int × Unit)) (h6 : (List Int)) (h8 : (List Int)) (h9 : (List Int)) (A : List Int) {y : denL [.bool]} (hA : List.length A + (List.flatMap fI h6).length ≤ 2147483648) (hl : List.length h6 < 1000000000000) (h : Ev fun k =>
 (bif decide (List.length (A ++ List.flatMap fI h6) + List.length (List.set (List.replicate 1 0) 0 v5) ≤ 2147483648) then Option.bind (F75 ((h9, [], ()), ((A ++ List.flatMap fI h6) ++ List.set (List.replicate 1 0) 0 v5, [], ()), ())) fun (y : Bool × Unit) => bif bif z4_22 then y.1 else false then Option.bind (F30 (h0.1, h0.2.1, ())) fun (y : List Int × Int × Unit) => T17_12 0 y.2.1 true h0 y.1 h8 (List.set (List.replicate 1 0) 0 (↑(List.length y.1) : Int)) k else T17_4 h0.1.1 0 h0.1.1 h0.1.1 h0.1 false h0 h0 h0.1 h8 (List.set (List.replicate 1 0) 0 (↑(List.length h0.1.1) : Int)) k else none : Option (denL [.bool])) = some y) : Ev fun k => T17_11 0 v5 z4_22 h0 h6 A h8 h9 k = some y :=
 put_loop (T := fun i A k => T17_11 (i : Int) v5 z4_22 h0 h6 A h8 h9 k) fI h6 0 2147483648 (fun i A hi hA h => R17_11 _ _ _ _ _ _ _ _ (Ev.eq (fun _ => bif_t (by omega) _ _) (Ev.eq (fun _ => bif_tt (by omega) (by omega) _ _) (by
  simp only [fI, List.length_cons, List.length_nil] at hA
  simp (disch := first | omega | (simp only [one_set, List.length_append, List.length_cons, List.length_nil]; omega)) only [bif_t, wrap_succ]
  simp only [one_set, Int.toNat_natCast]
  exact h)))) hA (R17_11 _ _ _ _ _ _ _ _ (Ev.eq (fun _ => bif_f (by omega) _ _) h))
theorem st17_12 (v5 : Int) (z4_26 : Bool) (h0 : (Bk × Int × Int × Unit)) (h6 : (List Int)) (h7 : (List Int)) (A : List Int) {y : denL [.bool]} (hA : List.length A + (List.flatMap fI h6).length ≤ 2147483648) (hl : List.length h6 < 1000000000000) (h : Ev fun k =>
 (bif decide (List.length (A ++ List.flatMap fI h6) + List.length (List.set (List.replicate 1 0) 0 v5) ≤ 2147483648) then T17_13 0 z4_26 h0 h6 h7 ((A ++ List.flatMap fI h6) ++ List.set (List.replicate 1 0) 0 v5) k else none : Option (denL [.bool])) = some y) : Ev fun k => T17_12 0 v5 z4_26 h0 h6 h7 A k = some y :=
 put_loop (T := fun i A k => T17_12 (i : Int) v5 z4_26 h0 h6 h7 A k) fI h6 0 2147483648 (fun i A hi hA h => R17_12 _ _ _ _ _ _ _ (Ev.eq (fun _ => bif_t (by omega) _ _) (Ev.eq (fun _ => bif_tt (by omega) (by omega) _ _) (by
  simp only [fI, List.length_cons, List.length_nil] at hA
  simp (disch := first | omega | (simp only [one_set, List.length_append, List.length_cons, List.length_nil]; omega)) only [bif_t, wrap_succ]
  simp only [one_set, Int.toNat_natCast]
  exact h)))) hA (R17_12 _ _ _ _ _ _ _ (Ev.eq (fun _ => bif_f (by omega) _ _) h))
theorem st17_13 (z4_26 : Bool) (h0 : (Bk × Int × Int × Unit)) (h6 : (List Int)) (h7 : (List Int)) (h8 : (List Int)) {y : denL [.bool]} (hl : List.length h6 < 1000000000000) (h : Ev fun k =>
 (Option.bind (F30 (h0.1, h0.2.1, ())) fun (y : List Int × Int × Unit) => T17_14 0 y.2.1 z4_26 h0 y.1 (List.set (List.replicate 1 0) 0 (↑(List.length y.1) : Int)) h7 h8 k : Option (denL [.bool])) = some y) : Ev fun k => T17_13 0 z4_26 h0 h6 h7 h8 k = some y :=
 wipe_loop (T := fun i l k => T17_13 (i : Int) z4_26 h0 l h7 h8 k) (-77) h6 (fun i l hl0 hi h => R17_13 _ _ _ _ _ _ (Ev.eq (fun _ => bif_t (by omega) _ _) (Ev.eq (fun _ => bif_tt (by omega) (by omega) _ _) (by
  simp (disch := omega) only [bif_t, Int.toNat_natCast, wrap_succ]
  exact h)))) (fun l hl0 => R17_13 _ _ _ _ _ _ (Ev.eq (fun _ => bif_f (by omega) _ _) h))
theorem st17_14 (v5 : Int) (z4_26 : Bool) (h0 : (Bk × Int × Int × Unit)) (h6 : (List Int)) (h8 : (List Int)) (h9 : (List Int)) (A : List Int) {y : denL [.bool]} (hA : List.length A + (List.flatMap fI h6).length ≤ 2147483648) (hl : List.length h6 < 1000000000000) (h : Ev fun k =>
 (bif decide (List.length (A ++ List.flatMap fI h6) + List.length (List.set (List.replicate 1 0) 0 v5) ≤ 2147483648) then Option.bind (F75 ((h9, [], ()), ((A ++ List.flatMap fI h6) ++ List.set (List.replicate 1 0) 0 v5, [], ()), ())) fun (y : Bool × Unit) => bif bif z4_26 then y.1 else false then Option.bind (F32 (h0.1, h0.2.1, ())) fun (y : List Int × Int × Unit) => T17_15 0 y.2.1 true h0 y.1 h8 (List.set (List.replicate 1 0) 0 (↑(List.length y.1) : Int)) k else T17_4 h0.1.1 0 h0.1.1 h0.1.1 h0.1 false h0 h0 h0.1 h8 (List.set (List.replicate 1 0) 0 (↑(List.length h0.1.1) : Int)) k else none : Option (denL [.bool])) = some y) : Ev fun k => T17_14 0 v5 z4_26 h0 h6 A h8 h9 k = some y :=
 put_loop (T := fun i A k => T17_14 (i : Int) v5 z4_26 h0 h6 A h8 h9 k) fI h6 0 2147483648 (fun i A hi hA h => R17_14 _ _ _ _ _ _ _ _ (Ev.eq (fun _ => bif_t (by omega) _ _) (Ev.eq (fun _ => bif_tt (by omega) (by omega) _ _) (by
  simp only [fI, List.length_cons, List.length_nil] at hA
  simp (disch := first | omega | (simp only [one_set, List.length_append, List.length_cons, List.length_nil]; omega)) only [bif_t, wrap_succ]
  simp only [one_set, Int.toNat_natCast]
  exact h)))) hA (R17_14 _ _ _ _ _ _ _ _ (Ev.eq (fun _ => bif_f (by omega) _ _) h))
theorem st17_15 (v5 : Int) (z4_30 : Bool) (h0 : (Bk × Int × Int × Unit)) (h6 : (List Int)) (h7 : (List Int)) (A : List Int) {y : denL [.bool]} (hA : List.length A + (List.flatMap fI h6).length ≤ 2147483648) (hl : List.length h6 < 1000000000000) (h : Ev fun k =>
 (bif decide (List.length (A ++ List.flatMap fI h6) + List.length (List.set (List.replicate 1 0) 0 v5) ≤ 2147483648) then T17_16 0 z4_30 h0 h6 h7 ((A ++ List.flatMap fI h6) ++ List.set (List.replicate 1 0) 0 v5) k else none : Option (denL [.bool])) = some y) : Ev fun k => T17_15 0 v5 z4_30 h0 h6 h7 A k = some y :=
 put_loop (T := fun i A k => T17_15 (i : Int) v5 z4_30 h0 h6 h7 A k) fI h6 0 2147483648 (fun i A hi hA h => R17_15 _ _ _ _ _ _ _ (Ev.eq (fun _ => bif_t (by omega) _ _) (Ev.eq (fun _ => bif_tt (by omega) (by omega) _ _) (by
  simp only [fI, List.length_cons, List.length_nil] at hA
  simp (disch := first | omega | (simp only [one_set, List.length_append, List.length_cons, List.length_nil]; omega)) only [bif_t, wrap_succ]
  simp only [one_set, Int.toNat_natCast]
  exact h)))) hA (R17_15 _ _ _ _ _ _ _ (Ev.eq (fun _ => bif_f (by omega) _ _) h))
theorem st17_16 (z4_30 : Bool) (h0 : (Bk × Int × Int × Unit)) (h6 : (List Int)) (h7 : (List Int)) (h8 : (List Int)) {y : denL [.bool]} (hl : List.length h6 < 1000000000000) (h : Ev fun k =>
 (Option.bind (F32 (h0.1, h0.2.1, ())) fun (y : List Int × Int × Unit) => T17_17 0 y.2.1 z4_30 h0 y.1 (List.set (List.replicate 1 0) 0 (↑(List.length y.1) : Int)) h7 h8 k : Option (denL [.bool])) = some y) : Ev fun k => T17_16 0 z4_30 h0 h6 h7 h8 k = some y :=
 wipe_loop (T := fun i l k => T17_16 (i : Int) z4_30 h0 l h7 h8 k) (-77) h6 (fun i l hl0 hi h => R17_16 _ _ _ _ _ _ (Ev.eq (fun _ => bif_t (by omega) _ _) (Ev.eq (fun _ => bif_tt (by omega) (by omega) _ _) (by
  simp (disch := omega) only [bif_t, Int.toNat_natCast, wrap_succ]
  exact h)))) (fun l hl0 => R17_16 _ _ _ _ _ _ (Ev.eq (fun _ => bif_f (by omega) _ _) h))
theorem st17_17 (v5 : Int) (z4_30 : Bool) (h0 : (Bk × Int × Int × Unit)) (h6 : (List Int)) (h8 : (List Int)) (h9 : (List Int)) (A : List Int) {y : denL [.bool]} (hA : List.length A + (List.flatMap fI h6).length ≤ 2147483648) (hl : List.length h6 < 1000000000000) (h : Ev fun k =>
 (bif decide (List.length (A ++ List.flatMap fI h6) + List.length (List.set (List.replicate 1 0) 0 v5) ≤ 2147483648) then Option.bind (F75 ((h9, [], ()), ((A ++ List.flatMap fI h6) ++ List.set (List.replicate 1 0) 0 v5, [], ()), ())) fun (y : Bool × Unit) => bif bif z4_30 then y.1 else false then Option.bind (F34 (h0.1, h0.2.1, ())) fun (y : List Int × Int × Unit) => T17_18 0 y.2.1 true h0 y.1 h8 (List.set (List.replicate 1 0) 0 (↑(List.length y.1) : Int)) k else T17_4 h0.1.1 0 h0.1.1 h0.1.1 h0.1 false h0 h0 h0.1 h8 (List.set (List.replicate 1 0) 0 (↑(List.length h0.1.1) : Int)) k else none : Option (denL [.bool])) = some y) : Ev fun k => T17_17 0 v5 z4_30 h0 h6 A h8 h9 k = some y :=
 put_loop (T := fun i A k => T17_17 (i : Int) v5 z4_30 h0 h6 A h8 h9 k) fI h6 0 2147483648 (fun i A hi hA h => R17_17 _ _ _ _ _ _ _ _ (Ev.eq (fun _ => bif_t (by omega) _ _) (Ev.eq (fun _ => bif_tt (by omega) (by omega) _ _) (by
  simp only [fI, List.length_cons, List.length_nil] at hA
  simp (disch := first | omega | (simp only [one_set, List.length_append, List.length_cons, List.length_nil]; omega)) only [bif_t, wrap_succ]
  simp only [one_set, Int.toNat_natCast]
  exact h)))) hA (R17_17 _ _ _ _ _ _ _ _ (Ev.eq (fun _ => bif_f (by omega) _ _) h))
theorem st17_18 (v5 : Int) (z4_34 : Bool) (h0 : (Bk × Int × Int × Unit)) (h6 : (List Int)) (h7 : (List Int)) (A : List Int) {y : denL [.bool]} (hA : List.length A + (List.flatMap fI h6).length ≤ 2147483648) (hl : List.length h6 < 1000000000000) (h : Ev fun k =>
 (bif decide (List.length (A ++ List.flatMap fI h6) + List.length (List.set (List.replicate 1 0) 0 v5) ≤ 2147483648) then T17_19 0 z4_34 h0 h6 h7 ((A ++ List.flatMap fI h6) ++ List.set (List.replicate 1 0) 0 v5) k else none : Option (denL [.bool])) = some y) : Ev fun k => T17_18 0 v5 z4_34 h0 h6 h7 A k = some y :=
 put_loop (T := fun i A k => T17_18 (i : Int) v5 z4_34 h0 h6 h7 A k) fI h6 0 2147483648 (fun i A hi hA h => R17_18 _ _ _ _ _ _ _ (Ev.eq (fun _ => bif_t (by omega) _ _) (Ev.eq (fun _ => bif_tt (by omega) (by omega) _ _) (by
  simp only [fI, List.length_cons, List.length_nil] at hA
  simp (disch := first | omega | (simp only [one_set, List.length_append, List.length_cons, List.length_nil]; omega)) only [bif_t, wrap_succ]
  simp only [one_set, Int.toNat_natCast]
  exact h)))) hA (R17_18 _ _ _ _ _ _ _ (Ev.eq (fun _ => bif_f (by omega) _ _) h))
theorem st17_19 (z4_34 : Bool) (h0 : (Bk × Int × Int × Unit)) (h6 : (List Int)) (h7 : (List Int)) (h8 : (List Int)) {y : denL [.bool]} (hl : List.length h6 < 1000000000000) (h : Ev fun k =>
 (Option.bind (F34 (h0.1, h0.2.1, ())) fun (y : List Int × Int × Unit) => T17_20 0 y.2.1 z4_34 h0 y.1 (List.set (List.replicate 1 0) 0 (↑(List.length y.1) : Int)) h7 h8 k : Option (denL [.bool])) = some y) : Ev fun k => T17_19 0 z4_34 h0 h6 h7 h8 k = some y :=
 wipe_loop (T := fun i l k => T17_19 (i : Int) z4_34 h0 l h7 h8 k) (-77) h6 (fun i l hl0 hi h => R17_19 _ _ _ _ _ _ (Ev.eq (fun _ => bif_t (by omega) _ _) (Ev.eq (fun _ => bif_tt (by omega) (by omega) _ _) (by
  simp (disch := omega) only [bif_t, Int.toNat_natCast, wrap_succ]
  exact h)))) (fun l hl0 => R17_19 _ _ _ _ _ _ (Ev.eq (fun _ => bif_f (by omega) _ _) h))
theorem st17_20 (v5 : Int) (z4_34 : Bool) (h0 : (Bk × Int × Int × Unit)) (h6 : (List Int)) (h8 : (List Int)) (h9 : (List Int)) (A : List Int) {y : denL [.bool]} (hA : List.length A + (List.flatMap fI h6).length ≤ 2147483648) (hl : List.length h6 < 1000000000000) (h : Ev fun k =>
 (bif decide (List.length (A ++ List.flatMap fI h6) + List.length (List.set (List.replicate 1 0) 0 v5) ≤ 2147483648) then Option.bind (F75 ((h9, [], ()), ((A ++ List.flatMap fI h6) ++ List.set (List.replicate 1 0) 0 v5, [], ()), ())) fun (y : Bool × Unit) => bif bif z4_34 then y.1 else false then Option.bind (F36 (h0.1, ())) fun (y : List Int × Int × Unit) => T17_21 0 y.2.1 true h0 y.1 h8 (List.set (List.replicate 1 0) 0 (↑(List.length y.1) : Int)) k else T17_4 h0.1.1 0 h0.1.1 h0.1.1 h0.1 false h0 h0 h0.1 h8 (List.set (List.replicate 1 0) 0 (↑(List.length h0.1.1) : Int)) k else none : Option (denL [.bool])) = some y) : Ev fun k => T17_20 0 v5 z4_34 h0 h6 A h8 h9 k = some y :=
 put_loop (T := fun i A k => T17_20 (i : Int) v5 z4_34 h0 h6 A h8 h9 k) fI h6 0 2147483648 (fun i A hi hA h => R17_20 _ _ _ _ _ _ _ _ (Ev.eq (fun _ => bif_t (by omega) _ _) (Ev.eq (fun _ => bif_tt (by omega) (by omega) _ _) (by
  simp only [fI, List.length_cons, List.length_nil] at hA
  simp (disch := first | omega | (simp only [one_set, List.length_append, List.length_cons, List.length_nil]; omega)) only [bif_t, wrap_succ]
  simp only [one_set, Int.toNat_natCast]
  exact h)))) hA (R17_20 _ _ _ _ _ _ _ _ (Ev.eq (fun _ => bif_f (by omega) _ _) h))
theorem st17_21 (v5 : Int) (z4_38 : Bool) (h0 : (Bk × Int × Int × Unit)) (h6 : (List Int)) (h7 : (List Int)) (A : List Int) {y : denL [.bool]} (hA : List.length A + (List.flatMap fI h6).length ≤ 2147483648) (hl : List.length h6 < 1000000000000) (h : Ev fun k =>
 (bif decide (List.length (A ++ List.flatMap fI h6) + List.length (List.set (List.replicate 1 0) 0 v5) ≤ 2147483648) then T17_22 0 z4_38 h0 h6 h7 ((A ++ List.flatMap fI h6) ++ List.set (List.replicate 1 0) 0 v5) k else none : Option (denL [.bool])) = some y) : Ev fun k => T17_21 0 v5 z4_38 h0 h6 h7 A k = some y :=
 put_loop (T := fun i A k => T17_21 (i : Int) v5 z4_38 h0 h6 h7 A k) fI h6 0 2147483648 (fun i A hi hA h => R17_21 _ _ _ _ _ _ _ (Ev.eq (fun _ => bif_t (by omega) _ _) (Ev.eq (fun _ => bif_tt (by omega) (by omega) _ _) (by
  simp only [fI, List.length_cons, List.length_nil] at hA
  simp (disch := first | omega | (simp only [one_set, List.length_append, List.length_cons, List.length_nil]; omega)) only [bif_t, wrap_succ]
  simp only [one_set, Int.toNat_natCast]
  exact h)))) hA (R17_21 _ _ _ _ _ _ _ (Ev.eq (fun _ => bif_f (by omega) _ _) h))
theorem st17_22 (z4_38 : Bool) (h0 : (Bk × Int × Int × Unit)) (h6 : (List Int)) (h7 : (List Int)) (h8 : (List Int)) {y : denL [.bool]} (hl : List.length h6 < 1000000000000) (h : Ev fun k =>
 (Option.bind (F36 (h0.1, ())) fun (y : List Int × Int × Unit) => T17_23 0 y.2.1 z4_38 h0 y.1 (List.set (List.replicate 1 0) 0 (↑(List.length y.1) : Int)) h7 h8 k : Option (denL [.bool])) = some y) : Ev fun k => T17_22 0 z4_38 h0 h6 h7 h8 k = some y :=
 wipe_loop (T := fun i l k => T17_22 (i : Int) z4_38 h0 l h7 h8 k) (-77) h6 (fun i l hl0 hi h => R17_22 _ _ _ _ _ _ (Ev.eq (fun _ => bif_t (by omega) _ _) (Ev.eq (fun _ => bif_tt (by omega) (by omega) _ _) (by
  simp (disch := omega) only [bif_t, Int.toNat_natCast, wrap_succ]
  exact h)))) (fun l hl0 => R17_22 _ _ _ _ _ _ (Ev.eq (fun _ => bif_f (by omega) _ _) h))
theorem st17_23 (v5 : Int) (z4_38 : Bool) (h0 : (Bk × Int × Int × Unit)) (h6 : (List Int)) (h8 : (List Int)) (h9 : (List Int)) (A : List Int) {y : denL [.bool]} (hA : List.length A + (List.flatMap fI h6).length ≤ 2147483648) (hl : List.length h6 < 1000000000000) (h : Ev fun k =>
 (bif decide (List.length (A ++ List.flatMap fI h6) + List.length (List.set (List.replicate 1 0) 0 v5) ≤ 2147483648) then Option.bind (F75 ((h9, [], ()), ((A ++ List.flatMap fI h6) ++ List.set (List.replicate 1 0) 0 v5, [], ()), ())) fun (y : Bool × Unit) => T17_4 h0.1.1 0 h0.1.1 h0.1.1 h0.1 (bif z4_38 then y.1 else false) h0 h0 h0.1 h8 (List.set (List.replicate 1 0) 0 (↑(List.length h0.1.1) : Int)) k else none : Option (denL [.bool])) = some y) : Ev fun k => T17_23 0 v5 z4_38 h0 h6 A h8 h9 k = some y :=
 put_loop (T := fun i A k => T17_23 (i : Int) v5 z4_38 h0 h6 A h8 h9 k) fI h6 0 2147483648 (fun i A hi hA h => R17_23 _ _ _ _ _ _ _ _ (Ev.eq (fun _ => bif_t (by omega) _ _) (Ev.eq (fun _ => bif_tt (by omega) (by omega) _ _) (by
  simp only [fI, List.length_cons, List.length_nil] at hA
  simp (disch := first | omega | (simp only [one_set, List.length_append, List.length_cons, List.length_nil]; omega)) only [bif_t, wrap_succ]
  simp only [one_set, Int.toNat_natCast]
  exact h)))) hA (R17_23 _ _ _ _ _ _ _ _ (Ev.eq (fun _ => bif_f (by omega) _ _) h))
theorem st17_1 (t1 : (List (List Wy))) (u5 : (List (List Wy))) (v10 : (List (List Wy))) (w6 : Bk) (z4_6 : (Bk × Int × Int × Unit)) (h0 : (Bk × Int × Int × Unit)) (h3 : (Bk × Int × Int × Unit)) (A : List Int) {y : denL [.bool]} (hA : List.length A + (List.flatMap fWs t1).length ≤ 2147483648) (hl : List.length t1 < 1000000000000) (h : Ev fun k =>
 (bif decide (List.length (A ++ List.flatMap fWs t1) + List.length (List.set (List.replicate 1 0) 0 h3.2.1) ≤ 2147483648) then bif decide (List.length ((A ++ List.flatMap fWs t1) ++ List.set (List.replicate 1 0) 0 h3.2.1) + List.length (List.set (List.replicate 1 0) 0 h3.2.2.1) ≤ 2147483648) then Option.bind (F18 (h0.1, ())) fun (y : Int × Int × Int × Unit) => Option.bind (F18 (h0.1, ())) fun (y_1 : Int × Int × Int × Unit) => Option.bind (F75 ((List.set (List.replicate 1 0) 0 y.1 ++ List.set (List.replicate 1 0) 0 y.2.1 ++ List.set (List.replicate 1 0) 0 y.2.2.1, [], ()), (List.set (List.replicate 1 0) 0 y_1.1 ++ List.set (List.replicate 1 0) 0 y_1.2.1 ++ List.set (List.replicate 1 0) 0 y_1.2.2.1, [], ()), ())) fun (y : Bool × Unit) => bif y.1 then Option.bind (F20 (h0.1, h0.2.1, ())) fun (y : Int × Int × Unit) => Option.bind (F20 (h0.1, h0.2.1, ())) fun (y_2 : Int × Int × Unit) => Option.bind (F75 ((List.set (List.replicate 1 0) 0 y.1 ++ List.set (List.replicate 1 0) 0 y.2.1, [], ()), (List.set (List.replicate 1 0) 0 y_2.1 ++ List.set (List.replicate 1 0) 0 y_2.2.1, [], ()), ())) fun (y : Bool × Unit) => bif y.1 then Option.bind (F22 (h0.1, ())) fun (y : Int × Int × Int × Int × Unit) => Option.bind (F22 (h0.1, ())) fun (y_3 : Int × Int × Int × Int × Unit) => Option.bind (F75 ((List.set (List.replicate 1 0) 0 y.1 ++ List.set (List.replicate 1 0) 0 y.2.1 ++ List.set (List.replicate 1 0) 0 y.2.2.1 ++ List.set (List.replicate 1 0) 0 y.2.2.2.1, [], ()), (List.set (List.replicate 1 0) 0 y_3.1 ++ List.set (List.replicate 1 0) 0 y_3.2.1 ++ List.set (List.replicate 1 0) 0 y_3.2.2.1 ++ List.set (List.replicate 1 0) 0 y_3.2.2.2.1, [], ()), ())) fun (y : Bool × Unit) => bif y.1 then Option.bind (F25 (h0.1, h0.2.2.1, ())) fun (y : List Int × Int × Unit) => T17_3 0 y.2.1 true h0 y.1 (List.set (List.replicate 1 0) 0 (↑(List.length y.1) : Int)) ((A ++ List.flatMap fWs t1) ++ List.set (List.replicate 1 0) 0 h3.2.1 ++ List.set (List.replicate 1 0) 0 h3.2.2.1) k else T17_4 h0.1.1 0 h0.1.1 h0.1.1 h0.1 false h0 h0 h0.1 ((A ++ List.flatMap fWs t1) ++ List.set (List.replicate 1 0) 0 h3.2.1 ++ List.set (List.replicate 1 0) 0 h3.2.2.1) (List.set (List.replicate 1 0) 0 (↑(List.length h0.1.1) : Int)) k else T17_4 h0.1.1 0 h0.1.1 h0.1.1 h0.1 false h0 h0 h0.1 ((A ++ List.flatMap fWs t1) ++ List.set (List.replicate 1 0) 0 h3.2.1 ++ List.set (List.replicate 1 0) 0 h3.2.2.1) (List.set (List.replicate 1 0) 0 (↑(List.length h0.1.1) : Int)) k else T17_4 h0.1.1 0 h0.1.1 h0.1.1 h0.1 false h0 h0 h0.1 ((A ++ List.flatMap fWs t1) ++ List.set (List.replicate 1 0) 0 h3.2.1 ++ List.set (List.replicate 1 0) 0 h3.2.2.1) (List.set (List.replicate 1 0) 0 (↑(List.length h0.1.1) : Int)) k else none else none : Option (denL [.bool])) = some y) : Ev fun k => T17_1 t1 0 u5 v10 w6 z4_6 h0 h3 A k = some y :=
 put_loop (T := fun i A k => T17_1 t1 (i : Int) u5 v10 w6 z4_6 h0 h3 A k) fWs t1 [] 2147483648 (fun i A hi hA h => R17_1 _ _ _ _ _ _ _ _ _ (Ev.eq (fun _ => bif_t (by omega) _ _) (Ev.eq (fun _ => bif_tt (by omega) (by omega) _ _) (by
  simp only [fWs, List.length_cons] at hA
  have hw := putL_len fWy 3 (fun _ => rfl) (t1.getD i [])
  refine Ev.eq (fun _ => bif_t (by simp only [one_set, List.length_cons, List.length_nil]; omega) _ _) ?_
  simp only [Int.toNat_natCast]
  apply st17_2
  ·simp only [one_set, List.length_append, List.length_cons, List.length_nil]; omega
  ·omega
  ·rw [wrap_succ (by omega)]
   simp only [one_set, List.append_assoc, List.cons_append, List.nil_append]
   exact h)))) hA (R17_1 _ _ _ _ _ _ _ _ _ (Ev.eq (fun _ => bif_f (by omega) _ _) h))
theorem st17_6 (t1 : (List (List Wy))) (u5 : (List (List Wy))) (v10 : (List (List Wy))) (w6 : Bk) (z4_5 : Bool) (z4_42 : (Bk × Int × Int × Unit)) (h2 : (Bk × Int × Int × Unit)) (h3 : (List Int)) (A : List Int) {y : denL [.bool]} (hA : List.length A + (List.flatMap fWs t1).length ≤ 2147483648) (hl : List.length t1 < 1000000000000) (h : Ev fun _ =>
 (bif decide (List.length (A ++ List.flatMap fWs t1) + List.length (List.set (List.replicate 1 0) 0 h2.2.1) ≤ 2147483648) then bif decide (List.length ((A ++ List.flatMap fWs t1) ++ List.set (List.replicate 1 0) 0 h2.2.1) + List.length (List.set (List.replicate 1 0) 0 h2.2.2.1) ≤ 2147483648) then bif z4_5 then Option.bind (F75 ((h3, [], ()), ((A ++ List.flatMap fWs t1) ++ List.set (List.replicate 1 0) 0 h2.2.1 ++ List.set (List.replicate 1 0) 0 h2.2.2.1, [], ()), ())) fun (y : Bool × Unit) => bif y.1 then Option.bind (F24 ()) fun (y : Bool × Unit) => some (y.1, ()) else some (false, ()) else some (false, ()) else none else none : Option (denL [.bool])) = some y) : Ev fun k => T17_6 t1 0 u5 v10 w6 z4_5 z4_42 h2 h3 A k = some y :=
 put_loop (T := fun i A k => T17_6 t1 (i : Int) u5 v10 w6 z4_5 z4_42 h2 h3 A k) fWs t1 [] 2147483648 (fun i A hi hA h => R17_6 _ _ _ _ _ _ _ _ _ _ (Ev.eq (fun _ => bif_t (by omega) _ _) (Ev.eq (fun _ => bif_tt (by omega) (by omega) _ _) (by
  simp only [fWs, List.length_cons] at hA
  have hw := putL_len fWy 3 (fun _ => rfl) (t1.getD i [])
  refine Ev.eq (fun _ => bif_t (by simp only [one_set, List.length_cons, List.length_nil]; omega) _ _) ?_
  simp only [Int.toNat_natCast]
  apply st17_8
  ·simp only [one_set, List.length_append, List.length_cons, List.length_nil]; omega
  ·omega
  ·rw [wrap_succ (by omega)]
   simp only [one_set, List.append_assoc, List.cons_append, List.nil_append]
   exact h)))) hA (R17_6 _ _ _ _ _ _ _ _ _ _ (Ev.eq (fun _ => bif_f (by omega) _ _) h))
theorem len_sets {b : Bk} {ok : List Int → Bool} : (Few.scan ok (setsL b) [] false).1.length ≤ 8 := by
 rcases scan_mem ok (setsL b) [] false with h | h
 ·rw [h]; simp
 ·unfold setsL restL at h ⊢
  obtain ⟨set, _, h2⟩ := List.mem_map.1 h
  rw [← h2]
  exact numsL_len _ 8
theorem L17 (x : Bk × Int × Int × Unit) (hx : 2 * x.1.1.length + (x.1.2.1.flatMap fWs).length + x.1.2.1.length ≤ 2000000000) : F17 (x, ()) = some (true, ()) := by
 obtain ⟨⟨B, S, u⟩, n, row, u'⟩ := x
 simp only at hx
 have hB := putL_len fRw 2 (fun _ => rfl) B
 generalize hS : (List.flatMap fWs S).length = m at hx
 apply N17
 simp only [one_set]
 generalize hs : ((B, S, u) : Bk) = s
 generalize hxx : ((s, n, row, u') : Bk × Int × Int × Unit) = x
 have e1 : s.1 = B := by rw [← hs]
 have e2 : s.2.1 = S := by rw [← hs]
 have x1 : x.1 = s := by rw [← hxx]
 have x2 : x.2.1 = n := by rw [← hxx]
 have x3 : x.2.2.1 = row := by rw [← hxx]
 have l18 : F18 (s, ()) = some (chkP s) := L18 s
 have l20 : F20 (s, n, ()) = some (valueP s n) := L20 s n
 have l22 : F22 (s, ()) = some (clashR s) := L22 s
 have l25 : F25 (s, row, ()) = some (againP s row) := L25 s row
 have l28 : F28 (s, row, ()) = some (strikeP s row) := L28 s row
 have l30 : F30 (s, n, ()) = some (groundP s n) := L30 s n
 have l32 : F32 (s, n, ()) = some (needsP s n) := L32 s n
 have l34 : F34 (s, n, ()) = some (cutP s n) := L34 s n
 have l36 : F36 (s, ()) = some (wrongP s) := L36 s
 have hSl : s.2.1.length ≤ 2000000000 := by rw [e2]; omega
 have h25 : (againP s row).1.length ≤ 2000000000 := by
  unfold againP
  split
  ·exact Nat.le_trans (numsL_len _ _) hSl
  ·simp
 have h28 : (strikeP s row).1.length ≤ 2000000000 := by
  unfold strikeP
  split
  ·exact Nat.le_trans (numsL_len _ _) hSl
  ·simp
 have h30 : (groundP s n).1.length ≤ 2000000000 := by
  unfold groundP
  split
  ·have := len_sets (b := s) (ok := okG s n.toNat); simp only; omega
  ·simp
 have h32 : (needsP s n).1.length ≤ 2000000000 := by
  unfold needsP
  split
  ·have := numsL_len (needsB s n.toNat) 8; simp only; omega
  ·simp
 have h34 : (cutP s n).1.length ≤ 2000000000 := by
  unfold cutP
  split
  ·have := len_sets (b := s) (ok := okC s n.toNat); simp only; omega
  ·simp
 have h36 : (wrongP s).1.length ≤ 2000000000 := by
  unfold wrongP
  split
  ·have := len_sets (b := s) (ok := okW s); simp only; omega
  ·simp
 generalize hW : ((B.length : Int) :: (B.flatMap fRw ++ (S.length : Int) :: (S.flatMap fWs ++ [n, row])) : List Int) = W
 have hWl : W.length ≤ 4294967296 := by
  rw [← hW]
  simp only [List.length_append, List.length_cons, List.length_nil, hB, hS]
  omega
 have is : Ev fun k => T17_4 B 0 B B s true x x s W [(B.length : Int)] k = some (true, ()) := by
  apply st17_4
  ·rw [hB]; simp only [List.length_cons, List.length_nil]; omega
  ·omega
  simp only [e2]
  simp (disch := first | omega | (simp only [one_set, List.length_append, List.length_cons, List.length_nil, hB, hS]; omega)) only [bif_t]
  simp only [one_set, List.cons_append, List.nil_append]
  apply st17_6
  ·rw [hS]; simp only [List.length_append, List.length_cons, List.length_nil, hB]; omega
  ·omega
  simp only [x2, x3]
  simp (disch := first | omega | (simp only [one_set, List.length_append, List.length_cons, List.length_nil, hB, hS]; omega)) only [bif_t, bif_tru]
  simp only [one_set, List.append_assoc, List.cons_append, List.nil_append]
  rw [show ((B.length : Int) :: (B.flatMap fRw ++ (S.length : Int) :: (S.flatMap fWs ++ [n, row])) : List Int) = W from hW, L75 _ hWl]
  simp only [Option.bind_some, bif_tru, L24]
  exact Ev.all fun _ => trivial
 have s36 : Ev fun k => T17_21 0 (wrongP s).2.1 true x (wrongP s).1 W [((wrongP s).1.length : Int)] k = some (true, ()) := by
  have hl := putL_len fI 1 (fun _ => rfl) (wrongP s).1
  apply st17_21
  ·rw [hl]; simp only [List.length_cons, List.length_nil]; omega
  ·omega
  simp (disch := first | omega | (simp only [one_set, List.length_append, List.length_cons, List.length_nil, hB, hS, hl]; omega)) only [bif_t]
  apply st17_22
  ·omega
  simp only [x1, l36, Option.bind_some]
  apply st17_23
  ·rw [hl]; simp only [one_set, List.length_cons, List.length_nil]; omega
  ·omega
  simp (disch := first | omega | (simp only [one_set, List.length_append, List.length_cons, List.length_nil, hB, hS, hl]; omega)) only [bif_t, bif_tru]
  simp only [one_set]
  rw [L75 _ (by simp only [List.length_append, List.length_cons, List.length_nil, hl]; omega)]
  simp only [Option.bind_some, x1, e1]
  exact is
 have s34 : Ev fun k => T17_18 0 (cutP s n).2.1 true x (cutP s n).1 W [((cutP s n).1.length : Int)] k = some (true, ()) := by
  have hl := putL_len fI 1 (fun _ => rfl) (cutP s n).1
  apply st17_18
  ·rw [hl]; simp only [List.length_cons, List.length_nil]; omega
  ·omega
  simp (disch := first | omega | (simp only [one_set, List.length_append, List.length_cons, List.length_nil, hB, hS, hl]; omega)) only [bif_t]
  apply st17_19
  ·omega
  simp only [x1, x2, l34, Option.bind_some]
  apply st17_20
  ·rw [hl]; simp only [one_set, List.length_cons, List.length_nil]; omega
  ·omega
  simp (disch := first | omega | (simp only [one_set, List.length_append, List.length_cons, List.length_nil, hB, hS, hl]; omega)) only [bif_t, bif_tru]
  simp only [one_set]
  rw [L75 _ (by simp only [List.length_append, List.length_cons, List.length_nil, hl]; omega)]
  simp only [Option.bind_some, bif_tru, x1, e1, l36]
  exact s36
 have s32 : Ev fun k => T17_15 0 (needsP s n).2.1 true x (needsP s n).1 W [((needsP s n).1.length : Int)] k = some (true, ()) := by
  have hl := putL_len fI 1 (fun _ => rfl) (needsP s n).1
  apply st17_15
  ·rw [hl]; simp only [List.length_cons, List.length_nil]; omega
  ·omega
  simp (disch := first | omega | (simp only [one_set, List.length_append, List.length_cons, List.length_nil, hB, hS, hl]; omega)) only [bif_t]
  apply st17_16
  ·omega
  simp only [x1, x2, l32, Option.bind_some]
  apply st17_17
  ·rw [hl]; simp only [one_set, List.length_cons, List.length_nil]; omega
  ·omega
  simp (disch := first | omega | (simp only [one_set, List.length_append, List.length_cons, List.length_nil, hB, hS, hl]; omega)) only [bif_t, bif_tru]
  simp only [one_set]
  rw [L75 _ (by simp only [List.length_append, List.length_cons, List.length_nil, hl]; omega)]
  simp only [Option.bind_some, bif_tru, x1, x2, e1, l34]
  exact s34
 have s30 : Ev fun k => T17_12 0 (groundP s n).2.1 true x (groundP s n).1 W [((groundP s n).1.length : Int)] k = some (true, ()) := by
  have hl := putL_len fI 1 (fun _ => rfl) (groundP s n).1
  apply st17_12
  ·rw [hl]; simp only [List.length_cons, List.length_nil]; omega
  ·omega
  simp (disch := first | omega | (simp only [one_set, List.length_append, List.length_cons, List.length_nil, hB, hS, hl]; omega)) only [bif_t]
  apply st17_13
  ·omega
  simp only [x1, x2, l30, Option.bind_some]
  apply st17_14
  ·rw [hl]; simp only [one_set, List.length_cons, List.length_nil]; omega
  ·omega
  simp (disch := first | omega | (simp only [one_set, List.length_append, List.length_cons, List.length_nil, hB, hS, hl]; omega)) only [bif_t, bif_tru]
  simp only [one_set]
  rw [L75 _ (by simp only [List.length_append, List.length_cons, List.length_nil, hl]; omega)]
  simp only [Option.bind_some, bif_tru, x1, x2, e1, l32]
  exact s32
 have s28 : Ev fun k => T17_9 0 (strikeP s row).2.1 true x (strikeP s row).1 W [((strikeP s row).1.length : Int)] k = some (true, ()) := by
  have hl := putL_len fI 1 (fun _ => rfl) (strikeP s row).1
  apply st17_9
  ·rw [hl]; simp only [List.length_cons, List.length_nil]; omega
  ·omega
  simp (disch := first | omega | (simp only [one_set, List.length_append, List.length_cons, List.length_nil, hB, hS, hl]; omega)) only [bif_t]
  apply st17_10
  ·omega
  simp only [x1, x3, l28, Option.bind_some]
  apply st17_11
  ·rw [hl]; simp only [one_set, List.length_cons, List.length_nil]; omega
  ·omega
  simp (disch := first | omega | (simp only [one_set, List.length_append, List.length_cons, List.length_nil, hB, hS, hl]; omega)) only [bif_t, bif_tru]
  simp only [one_set]
  rw [L75 _ (by simp only [List.length_append, List.length_cons, List.length_nil, hl]; omega)]
  simp only [Option.bind_some, bif_tru, x1, x2, e1, l30]
  exact s30
 have s25 : Ev fun k => T17_3 0 (againP s row).2.1 true x (againP s row).1 [((againP s row).1.length : Int)] W k = some (true, ()) := by
  have hl := putL_len fI 1 (fun _ => rfl) (againP s row).1
  apply st17_3
  ·rw [hl]; simp only [List.length_cons, List.length_nil]; omega
  ·omega
  simp (disch := first | omega | (simp only [one_set, List.length_append, List.length_cons, List.length_nil, hB, hS, hl]; omega)) only [bif_t]
  apply st17_5
  ·omega
  simp only [x1, x3, l25, Option.bind_some]
  apply st17_7
  ·rw [hl]; simp only [one_set, List.length_cons, List.length_nil]; omega
  ·omega
  simp (disch := first | omega | (simp only [one_set, List.length_append, List.length_cons, List.length_nil, hB, hS, hl]; omega)) only [bif_t, bif_tru]
  simp only [one_set]
  rw [L75 _ (by simp only [List.length_append, List.length_cons, List.length_nil, hl]; omega)]
  simp only [Option.bind_some, bif_tru, x1, x3, e1, l28]
  exact s28
 apply st17_0
 ·rw [hB]; simp only [List.length_cons, List.length_nil]; omega
 ·omega
 simp only [e2]
 simp (disch := first | omega | (simp only [one_set, List.length_append, List.length_cons, List.length_nil, hB, hS]; omega)) only [bif_t]
 simp only [one_set, List.cons_append, List.nil_append]
 apply st17_1
 ·rw [hS]; simp only [List.length_append, List.length_cons, List.length_nil, hB]; omega
 ·omega
 simp only [x2, x3]
 simp (disch := first | omega | (simp only [one_set, List.length_append, List.length_cons, List.length_nil, hB, hS]; omega)) only [bif_t]
 simp only [one_set, List.append_assoc, List.cons_append, List.nil_append]
 rw [show ((B.length : Int) :: (B.flatMap fRw ++ (S.length : Int) :: (S.flatMap fWs ++ [n, row])) : List Int) = W from hW]
 simp only [Option.bind_some, bif_tru, x1, l18, l20, l22, l25, L75 _ (show List.length [_, _, _, _] ≤ 4294967296 by simp), L75 _ (show List.length [_, _, _] ≤ 4294967296 by simp), L75 _ (show List.length [_, _] ≤ 4294967296 by simp)]
 exact s25
end Go.Proofs.Ytallblpnlefpeaa
/- The context for TopAnewRow is the program's. Conditions: none. -/
namespace Go.Proofs.Ytallblpnlefpeaa
open Go Go.Gh Go.Proofs
theorem memo_plain (i : Nat) (mm : Memo) (h : memoC i = some mm) : plainT mm.val = true := by
 unfold memoC at h
 cases hq : Nat.beq i 0 with
 | true =>
  rw [hq] at h
  cases h
  rfl
 | false => rw [hq] at h; cases h
theorem ok75 : CtxOK' cx75 := CtxOK'.add ok49 (f := 75) (c := C75) (ghost_ok ok49 S75 6000 75 _ _) (fn_is (List.mem_range.2 (by decide)) (by kernel_rfl))
theorem fok25 : FConOK cx37 25 C25 := ghostF_ok ok37 memo_plain S25 6000 25 _ _ (by kernel_rfl) (by kernel_rfl)
theorem fok28 : FConOK cx36 28 C28 := ghostF_ok ok36 memo_plain S28 6000 28 _ _ (by kernel_rfl) (by kernel_rfl)
theorem fok30 : FConOK cx115 30 C30 := ghostF_ok ok115 memo_plain S30 6000 30 _ _ (by kernel_rfl) (by kernel_rfl)
theorem fok32 : FConOK cx30 32 C32 := ghostF_ok ok30 memo_plain S32 6000 32 _ _ (by kernel_rfl) (by kernel_rfl)
theorem fok34 : FConOK cx32 34 C34 := ghostF_ok ok32 memo_plain S34 6000 34 _ _ (by kernel_rfl) (by kernel_rfl)
theorem fok36 : FConOK cx34 36 C36 := ghostF_ok ok34 memo_plain S36 6000 36 _ _ (by kernel_rfl) (by kernel_rfl)
theorem ctx_is {cx : Ctx} (h : cx.P = Try.prog ∧ cx.glob = globs ∧ cx.memo = memoC) {cx' : Ctx} (h' : cx'.P = Try.prog ∧ cx'.glob = globs ∧ cx'.memo = memoC) {f : FuncId} {c : Con} (hc : FConOK cx f c) : FConOK cx' f c :=
 FConOK.ctx (h'.1.trans h.1.symm) (h'.2.1.trans h.2.1.symm) (h'.2.2.trans h.2.2.symm) hc
theorem addF_is {cx : Ctx} (h : cx.P = Try.prog ∧ cx.glob = globs ∧ cx.memo = memoC) (f : FuncId) (c : Con) : (cx.addF f c).P = Try.prog ∧ (cx.addF f c).glob = globs ∧ (cx.addF f c).memo = memoC := h
theorem is75 : cx75.P = Try.prog ∧ cx75.glob = globs ∧ cx75.memo = memoC := ⟨by kernel_rfl, by kernel_rfl, by kernel_rfl⟩
theorem is37 : cx37.P = Try.prog ∧ cx37.glob = globs ∧ cx37.memo = memoC := ⟨by kernel_rfl, by kernel_rfl, by kernel_rfl⟩
theorem is36 : cx36.P = Try.prog ∧ cx36.glob = globs ∧ cx36.memo = memoC := ⟨by kernel_rfl, by kernel_rfl, by kernel_rfl⟩
theorem is115 : cx115.P = Try.prog ∧ cx115.glob = globs ∧ cx115.memo = memoC := ⟨by kernel_rfl, by kernel_rfl, by kernel_rfl⟩
theorem is30 : cx30.P = Try.prog ∧ cx30.glob = globs ∧ cx30.memo = memoC := ⟨by kernel_rfl, by kernel_rfl, by kernel_rfl⟩
theorem is32 : cx32.P = Try.prog ∧ cx32.glob = globs ∧ cx32.memo = memoC := ⟨by kernel_rfl, by kernel_rfl, by kernel_rfl⟩
theorem is34 : cx34.P = Try.prog ∧ cx34.glob = globs ∧ cx34.memo = memoC := ⟨by kernel_rfl, by kernel_rfl, by kernel_rfl⟩
theorem okT25 : CtxOK' (cx75.addF 25 C25) := CtxOK'.addF ok75 (f := 25) (c := C25) (ctx_is is37 is75 fok25) (by rw [(is75).1]; exact fn_is (List.mem_range.2 (by decide)) (by kernel_rfl))
theorem okT28 : CtxOK' ((cx75.addF 25 C25).addF 28 C28) := CtxOK'.addF okT25 (f := 28) (c := C28) (ctx_is is36 (addF_is is75 25 C25) fok28) (by rw [((addF_is is75 25 C25)).1]; exact fn_is (List.mem_range.2 (by decide)) (by kernel_rfl))
theorem okT30 : CtxOK' (((cx75.addF 25 C25).addF 28 C28).addF 30 C30) := CtxOK'.addF okT28 (f := 30) (c := C30) (ctx_is is115 (addF_is (addF_is is75 25 C25) 28 C28) fok30) (by rw [((addF_is (addF_is is75 25 C25) 28 C28)).1]; exact fn_is (List.mem_range.2 (by decide)) (by kernel_rfl))
theorem okT32 : CtxOK' ((((cx75.addF 25 C25).addF 28 C28).addF 30 C30).addF 32 C32) := CtxOK'.addF okT30 (f := 32) (c := C32) (ctx_is is30 (addF_is (addF_is (addF_is is75 25 C25) 28 C28) 30 C30) fok32) (by rw [((addF_is (addF_is (addF_is is75 25 C25) 28 C28) 30 C30)).1]; exact fn_is (List.mem_range.2 (by decide)) (by kernel_rfl))
theorem okT34 : CtxOK' (((((cx75.addF 25 C25).addF 28 C28).addF 30 C30).addF 32 C32).addF 34 C34) := CtxOK'.addF okT32 (f := 34) (c := C34) (ctx_is is32 (addF_is (addF_is (addF_is (addF_is is75 25 C25) 28 C28) 30 C30) 32 C32) fok34) (by rw [((addF_is (addF_is (addF_is (addF_is is75 25 C25) 28 C28) 30 C30) 32 C32)).1]; exact fn_is (List.mem_range.2 (by decide)) (by kernel_rfl))
theorem okT36 : CtxOK' ((((((cx75.addF 25 C25).addF 28 C28).addF 30 C30).addF 32 C32).addF 34 C34).addF 36 C36) := CtxOK'.addF okT34 (f := 36) (c := C36) (ctx_is is34 (addF_is (addF_is (addF_is (addF_is (addF_is is75 25 C25) 28 C28) 30 C30) 32 C32) 34 C34) fok36) (by rw [((addF_is (addF_is (addF_is (addF_is (addF_is is75 25 C25) 28 C28) 30 C30) 32 C32) 34 C34)).1]; exact fn_is (List.mem_range.2 (by decide)) (by kernel_rfl))
theorem okT : CtxOK' cxT := CtxOK'.setTwin okT36 _
end Go.Proofs.Ytallblpnlefpeaa
