/- Loops that put lists and that write over them. Conditions: as each lemma states. -/
import Derived.Test.YtkbephbhajplhaaDoorGhI
import Derived.Test.YtkbephbhajplhaaDoorCyTr
import Derived.Test.YtkbephbhajplhaaDoorCyAw
import Derived.Test.YtkbephbhajplhaaDoorCyKK
import Derived.Test.YtkbephbhajplhaaDoorGhG
namespace Go.Gh
theorem bif_t {α : Type} {p : Prop} [Decidable p] (h : p) (a b : α) : (bif decide p then a else b) = a := by rw [decide_eq_true h]; rfl
theorem bif_f {α : Type} {p : Prop} [Decidable p] (h : ¬ p) (a b : α) : (bif decide p then a else b) = b := by rw [decide_eq_false h]; rfl
theorem bif_tt {α : Type} {p q : Prop} [Decidable p] [Decidable q] (h : p) (h' : q) (a b : α) : (bif decide p && decide q then a else b) = a := by rw [decide_eq_true h, decide_eq_true h']; rfl
theorem bif_tru {α : Type} (a b : α) : (bif true then a else b) = a := rfl
theorem bif_fls {α : Type} (a b : α) : (bif false then a else b) = b := rfl
theorem put_loop {α R : Type} {T : Nat → List Int → Nat → Option R} {y : R} (f : α → List Int) (l : List α) (d : α) (B : Nat)
  (hstep : ∀ i A, i < l.length → List.length A + (f (l.getD i d)).length ≤ B → (Ev fun k => T (i + 1) (A ++ f (l.getD i d)) k = some y) → Ev fun k => T i A k = some y)
  {A : List Int} (hA : A.length + (l.flatMap f).length ≤ B) (h : Ev fun k => T l.length (A ++ l.flatMap f) k = some y) : Ev fun k => T 0 A k = some y := by
 have key : ∀ (c i : Nat) (A : List Int), i + c = l.length → A.length + ((l.drop i).flatMap f).length ≤ B → (Ev fun k => T l.length (A ++ (l.drop i).flatMap f) k = some y) → Ev fun k => T i A k = some y := by
  intro c
  induction c with
  | zero =>
   intro i A hi _ h
   obtain rfl : i = l.length := by omega
   simpa using h
  | succ c ih =>
   intro i A hi hb h
   have hil : i < l.length := by omega
   have e : l.getD i d = l[i] := getD_lt hil
   rw [List.drop_eq_getElem_cons hil, List.flatMap_cons, List.length_append] at hb
   rw [List.drop_eq_getElem_cons hil, List.flatMap_cons] at h
   refine hstep i A hil (by rw [e]; omega) (ih (i + 1) _ (by omega) (by rw [e, List.length_append]; omega) ?_)
   rw [e, List.append_assoc]
   exact h
 exact key l.length 0 A (by omega) (by simpa using hA) (by simpa using h)
theorem wipe_loop {α R : Type} {T : Nat → List α → Nat → Option R} {y : R} (v : α) (l : List α) (hstep : ∀ i l', l'.length = l.length → i < l'.length → (Ev fun k => T (i + 1) (l'.set i v) k = some y) → Ev fun k => T i l' k = some y)
  (h : ∀ l', l'.length = l.length → Ev fun k => T l'.length l' k = some y) : Ev fun k => T 0 l k = some y := by
 have key : ∀ (c i : Nat) (l' : List α), i + c = l'.length → l'.length = l.length → Ev fun k => T i l' k = some y := by
  intro c
  induction c with
  | zero =>
   intro i l' hi hl
   obtain rfl : i = l'.length := by omega
   exact h l' hl
  | succ c ih =>
   intro i l' hi hl
   exact hstep i l' hl (by omega) (ih (i + 1) _ (by rw [List.length_set]; omega) (by rw [List.length_set]; exact hl))
 exact key l.length 0 l (by omega) rfl
theorem putL_len {α : Type} (f : α → List Int) (n : Nat) (hf : ∀ x, (f x).length = n) : ∀ l : List α, (l.flatMap f).length = n * l.length
 | [] => by simp
 | x :: l => by rw [List.flatMap_cons, List.length_append, putL_len f n hf l, hf, List.length_cons, Nat.mul_succ]; omega
theorem scan_mem (ok : List Int → Bool) : ∀ (ls : List (List Int)) (b : List Int) (f : Bool), (Few.scan ok ls b f).1 = b ∨ (Few.scan ok ls b f).1 ∈ ls
 | [], b, f => .inl rfl
 | l :: ls, b, f => by
  unfold Few.scan
  split
  ·rcases scan_mem ok ls b f with h | h
   ·exact .inl h
   ·exact .inr (List.mem_cons_of_mem _ h)
  ·split
   ·rcases scan_mem ok ls l true with h | h
    ·exact .inr (by rw [h]; exact List.mem_cons_self ..)
    ·exact .inr (List.mem_cons_of_mem _ h)
   ·rcases scan_mem ok ls b f with h | h
    ·exact .inl h
    ·exact .inr (List.mem_cons_of_mem _ h)
end Go.Gh
/- No function of package cycle changes an argument, or keeps what it returns. Conditions: as each lemma states. -/
namespace Go.Proofs.YtkbephbhajplhaaDoor
open Go Go.Gh Go.Proofs
theorem L78 (n : List Int) (hn : n.length ≤ 4294967296) : F78 ((n, [], ()), (n, [], ()), ()) = some (true, ()) := by
 refine N78 _ _ ?_
 simp only [bne_self_eq_false, bif_fls]
 have key : ∀ (c i : Nat), i + c = n.length → Ev fun k => T78_0 (i : Int) (n, [], ()) (n, [], ()) k = some (true, ()) := by
  intro c
  induction c with
  | zero =>
   intro i hi
   apply R78_0
   simp (disch := omega) only [bif_f]
   apply R78_1
   exact Ev.all fun _ => by first | rfl | trivial
  | succ c ih =>
   intro i hi
   apply R78_0
   have hil : i < n.length := by omega
   simp (disch := omega) only [bif_t, bif_tt, wrap_succ, bne_self_eq_false, bif_fls]
   exact ih (i + 1) (by omega)
 exact key n.length 0 (by omega)
def fSp (x : Sp) : List Int := [x.1, x.2.1]
def fSm (x : Sm) : List Int := [x.1, x.2.1, x.2.2.1.1, x.2.2.1.2.1]
def fI (x : Int) : List Int := [x]
theorem st16_0 (t1 : (List Sp)) (u5 : (List Sp)) (v6 : (List Sp)) (w6 : Se) (z4_6 : (Se × Int × Int × Int × Sp × Int × Unit)) (h0 : (Se × Int × Int × Int × Sp × Int × Unit)) (h3 : (Se × Int × Int × Int × Sp × Int × Unit)) (h4 : Se) (A : List Int) {y : denL [.bool]} (hA : List.length A + (List.flatMap fSp t1).length ≤ 2147483648) (hl : List.length t1 < 1000000000000) (h : Ev fun k =>
 (bif decide (List.length (A ++ List.flatMap fSp t1) + List.length (List.set (List.replicate 1 0) 0 (↑(List.length h4.2.1) : Int)) ≤ 2147483648) then T16_1 h4.2.1 0 h4.2.1 h4.2.1 w6 z4_6 h0 h3 h4 ((A ++ List.flatMap fSp t1) ++ List.set (List.replicate 1 0) 0 (↑(List.length h4.2.1) : Int)) k else none : Option (denL [.bool])) = some y) : Ev fun k => T16_0 t1 0 u5 v6 w6 z4_6 h0 h3 h4 A k = some y :=
 put_loop (T := fun i A k => T16_0 t1 (i : Int) u5 v6 w6 z4_6 h0 h3 h4 A k) fSp t1 (0, 0, ()) 2147483648 (fun i A hi hA h => R16_0 _ _ _ _ _ _ _ _ _ _ (Ev.eq (fun _ => bif_t (by omega) _ _) (Ev.eq (fun _ => bif_tt (by omega) (by omega) _ _) (by
  simp only [fSp, List.length_cons, List.length_nil] at hA
  simp (disch := first | omega | (simp only [one_set, List.length_append, List.length_cons, List.length_nil]; omega)) only [bif_t, wrap_succ]
  simp only [one_set, Int.toNat_natCast, List.append_assoc, List.cons_append, List.nil_append]
  exact h)))) hA (R16_0 _ _ _ _ _ _ _ _ _ _ (Ev.eq (fun _ => bif_f (by omega) _ _) h))
theorem st16_1 (t1 : (List Sm)) (u5 : (List Sm)) (v10 : (List Sm)) (w6 : Se) (z4_6 : (Se × Int × Int × Int × Sp × Int × Unit)) (h0 : (Se × Int × Int × Int × Sp × Int × Unit)) (h3 : (Se × Int × Int × Int × Sp × Int × Unit)) (h4 : Se) (A : List Int) {y : denL [.bool]} (hA : List.length A + (List.flatMap fSm t1).length ≤ 2147483648) (hl : List.length t1 < 1000000000000) (h : Ev fun k =>
 (bif decide (List.length (A ++ List.flatMap fSm t1) + List.length (List.set (List.replicate 1 0) 0 h4.2.2.1.1) ≤ 2147483648) then bif decide (List.length ((A ++ List.flatMap fSm t1) ++ List.set (List.replicate 1 0) 0 h4.2.2.1.1) + List.length (List.set (List.replicate 1 0) 0 h4.2.2.1.2.1) ≤ 2147483648) then bif decide (List.length ((A ++ List.flatMap fSm t1) ++ List.set (List.replicate 1 0) 0 h4.2.2.1.1 ++ List.set (List.replicate 1 0) 0 h4.2.2.1.2.1) + List.length (List.set (List.replicate 1 0) 0 h3.2.1) ≤ 2147483648) then bif decide (List.length ((A ++ List.flatMap fSm t1) ++ List.set (List.replicate 1 0) 0 h4.2.2.1.1 ++ List.set (List.replicate 1 0) 0 h4.2.2.1.2.1 ++ List.set (List.replicate 1 0) 0 h3.2.1) + List.length (List.set (List.replicate 1 0) 0 h3.2.2.1) ≤ 2147483648) then bif decide (List.length ((A ++ List.flatMap fSm t1) ++ List.set (List.replicate 1 0) 0 h4.2.2.1.1 ++ List.set (List.replicate 1 0) 0 h4.2.2.1.2.1 ++ List.set (List.replicate 1 0) 0 h3.2.1 ++ List.set (List.replicate 1 0) 0 h3.2.2.1) + List.length (List.set (List.replicate 1 0) 0 h3.2.2.2.1) ≤ 2147483648) then bif decide (List.length ((A ++ List.flatMap fSm t1) ++ List.set (List.replicate 1 0) 0 h4.2.2.1.1 ++ List.set (List.replicate 1 0) 0 h4.2.2.1.2.1 ++ List.set (List.replicate 1 0) 0 h3.2.1 ++ List.set (List.replicate 1 0) 0 h3.2.2.1 ++ List.set (List.replicate 1 0) 0 h3.2.2.2.1) + List.length (List.set (List.replicate 1 0) 0 h3.2.2.2.2.1.1) ≤ 2147483648) then bif decide (List.length ((A ++ List.flatMap fSm t1) ++ List.set (List.replicate 1 0) 0 h4.2.2.1.1 ++ List.set (List.replicate 1 0) 0 h4.2.2.1.2.1 ++ List.set (List.replicate 1 0) 0 h3.2.1 ++ List.set (List.replicate 1 0) 0 h3.2.2.1 ++ List.set (List.replicate 1 0) 0 h3.2.2.2.1 ++ List.set (List.replicate 1 0) 0 h3.2.2.2.2.1.1) + List.length (List.set (List.replicate 1 0) 0 h3.2.2.2.2.1.2.1) ≤ 2147483648) then bif decide (List.length ((A ++ List.flatMap fSm t1) ++ List.set (List.replicate 1 0) 0 h4.2.2.1.1 ++ List.set (List.replicate 1 0) 0 h4.2.2.1.2.1 ++ List.set (List.replicate 1 0) 0 h3.2.1 ++ List.set (List.replicate 1 0) 0 h3.2.2.1 ++ List.set (List.replicate 1 0) 0 h3.2.2.2.1 ++ List.set (List.replicate 1 0) 0 h3.2.2.2.2.1.1 ++ List.set (List.replicate 1 0) 0 h3.2.2.2.2.1.2.1) + List.length (List.set (List.replicate 1 0) 0 h3.2.2.2.2.2.1) ≤ 2147483648) then Option.bind (F17 (h0.1, ())) fun (y : Int × Int × Int × Unit) => Option.bind (F17 (h0.1, ())) fun (y_1 : Int × Int × Int × Unit) => Option.bind (F78 ((List.set (List.replicate 1 0) 0 y.1 ++ List.set (List.replicate 1 0) 0 y.2.1 ++ List.set (List.replicate 1 0) 0 y.2.2.1, [], ()), (List.set (List.replicate 1 0) 0 y_1.1 ++ List.set (List.replicate 1 0) 0 y_1.2.1 ++ List.set (List.replicate 1 0) 0 y_1.2.2.1, [], ()), ())) fun (y : Bool × Unit) => bif y.1 then Option.bind (F19 (h0.1, h0.2.1, ())) fun (y : Sp × Int × Unit) => Option.bind (F19 (h0.1, h0.2.1, ())) fun (y_2 : Sp × Int × Unit) => Option.bind (F78 ((List.set (List.replicate 1 0) 0 y.1.1 ++ List.set (List.replicate 1 0) 0 y.1.2.1 ++ List.set (List.replicate 1 0) 0 y.2.1, [], ()), (List.set (List.replicate 1 0) 0 y_2.1.1 ++ List.set (List.replicate 1 0) 0 y_2.1.2.1 ++ List.set (List.replicate 1 0) 0 y_2.2.1, [], ()), ())) fun (y : Bool × Unit) => bif y.1 then Option.bind (F21 (h0.1, h0.2.2.1, h0.2.2.2.1, ())) fun (y : Sp × Sp × Int × Unit) => Option.bind (F21 (h0.1, h0.2.2.1, h0.2.2.2.1, ())) fun (y_3 : Sp × Sp × Int × Unit) => Option.bind (F78 ((List.set (List.replicate 1 0) 0 y.1.1 ++ List.set (List.replicate 1 0) 0 y.1.2.1 ++ List.set (List.replicate 1 0) 0 y.2.1.1 ++ List.set (List.replicate 1 0) 0 y.2.1.2.1 ++ List.set (List.replicate 1 0) 0 y.2.2.1, [], ()), (List.set (List.replicate 1 0) 0 y_3.1.1 ++ List.set (List.replicate 1 0) 0 y_3.1.2.1 ++ List.set (List.replicate 1 0) 0 y_3.2.1.1 ++ List.set (List.replicate 1 0) 0 y_3.2.1.2.1 ++ List.set (List.replicate 1 0) 0 y_3.2.2.1, [], ()), ())) fun (y : Bool × Unit) => bif y.1 then Option.bind (F24 (h0.1, h0.2.1, ())) fun (y : Int × Int × Int × Unit) => Option.bind (F24 (h0.1, h0.2.1, ())) fun (y_4 : Int × Int × Int × Unit) => Option.bind (F78 ((List.set (List.replicate 1 0) 0 y.1 ++ List.set (List.replicate 1 0) 0 y.2.1 ++ List.set (List.replicate 1 0) 0 y.2.2.1, [], ()), (List.set (List.replicate 1 0) 0 y_4.1 ++ List.set (List.replicate 1 0) 0 y_4.2.1 ++ List.set (List.replicate 1 0) 0 y_4.2.2.1, [], ()), ())) fun (y : Bool × Unit) => bif y.1 then Option.bind (F26 (h0.1, ())) fun (y : Sp × Int × Unit) => Option.bind (F26 (h0.1, ())) fun (y_5 : Sp × Int × Unit) => Option.bind (F78 ((List.set (List.replicate 1 0) 0 y.1.1 ++ List.set (List.replicate 1 0) 0 y.1.2.1 ++ List.set (List.replicate 1 0) 0 y.2.1, [], ()), (List.set (List.replicate 1 0) 0 y_5.1.1 ++ List.set (List.replicate 1 0) 0 y_5.1.2.1 ++ List.set (List.replicate 1 0) 0 y_5.2.1, [], ()), ())) fun (y : Bool × Unit) => bif y.1 then Option.bind (F28 (h0.1, ())) fun (y : Sp × Int × Unit) => Option.bind (F28 (h0.1, ())) fun (y_6 : Sp × Int × Unit) => Option.bind (F78 ((List.set (List.replicate 1 0) 0 y.1.1 ++ List.set (List.replicate 1 0) 0 y.1.2.1 ++ List.set (List.replicate 1 0) 0 y.2.1, [], ()), (List.set (List.replicate 1 0) 0 y_6.1.1 ++ List.set (List.replicate 1 0) 0 y_6.1.2.1 ++ List.set (List.replicate 1 0) 0 y_6.2.1, [], ()), ())) fun (y : Bool × Unit) => bif y.1 then Option.bind (F30 (h0.1, h0.2.2.2.2.1, h0.2.2.2.2.2.1, ())) fun (y : List Int × Int × Unit) => T16_2 0 y.2.1 true h0 y.1 (List.set (List.replicate 1 0) 0 (↑(List.length y.1) : Int)) ((A ++ List.flatMap fSm t1) ++ List.set (List.replicate 1 0) 0 h4.2.2.1.1 ++ List.set (List.replicate 1 0) 0 h4.2.2.1.2.1 ++ List.set (List.replicate 1 0) 0 h3.2.1 ++ List.set (List.replicate 1 0) 0 h3.2.2.1 ++ List.set (List.replicate 1 0) 0 h3.2.2.2.1 ++ List.set (List.replicate 1 0) 0 h3.2.2.2.2.1.1 ++ List.set (List.replicate 1 0) 0 h3.2.2.2.2.1.2.1 ++ List.set (List.replicate 1 0) 0 h3.2.2.2.2.2.1) k else T16_3 h0.1.1 0 h0.1.1 h0.1.1 h0.1 false h0 h0 h0.1 ((A ++ List.flatMap fSm t1) ++ List.set (List.replicate 1 0) 0 h4.2.2.1.1 ++ List.set (List.replicate 1 0) 0 h4.2.2.1.2.1 ++ List.set (List.replicate 1 0) 0 h3.2.1 ++ List.set (List.replicate 1 0) 0 h3.2.2.1 ++ List.set (List.replicate 1 0) 0 h3.2.2.2.1 ++ List.set (List.replicate 1 0) 0 h3.2.2.2.2.1.1 ++ List.set (List.replicate 1 0) 0 h3.2.2.2.2.1.2.1 ++ List.set (List.replicate 1 0) 0 h3.2.2.2.2.2.1) (List.set (List.replicate 1 0) 0 (↑(List.length h0.1.1) : Int)) k else T16_3 h0.1.1 0 h0.1.1 h0.1.1 h0.1 false h0 h0 h0.1 ((A ++ List.flatMap fSm t1) ++ List.set (List.replicate 1 0) 0 h4.2.2.1.1 ++ List.set (List.replicate 1 0) 0 h4.2.2.1.2.1 ++ List.set (List.replicate 1 0) 0 h3.2.1 ++ List.set (List.replicate 1 0) 0 h3.2.2.1 ++ List.set (List.replicate 1 0) 0 h3.2.2.2.1 ++ List.set (List.replicate 1 0) 0 h3.2.2.2.2.1.1 ++ List.set (List.replicate 1 0) 0 h3.2.2.2.2.1.2.1 ++ List.set (List.replicate 1 0) 0 h3.2.2.2.2.2.1) (List.set (List.replicate 1 0) 0 (↑(List.length h0.1.1) : Int)) k else T16_3 h0.1.1 0 h0.1.1 h0.1.1 h0.1 false h0 h0 h0.1 ((A ++ List.flatMap fSm t1) ++ List.set (List.replicate 1 0) 0 h4.2.2.1.1 ++ List.set (List.replicate 1 0) 0 h4.2.2.1.2.1 ++ List.set (List.replicate 1 0) 0 h3.2.1 ++ List.set (List.replicate 1 0) 0 h3.2.2.1 ++ List.set (List.replicate 1 0) 0 h3.2.2.2.1 ++ List.set (List.replicate 1 0) 0 h3.2.2.2.2.1.1 ++ List.set (List.replicate 1 0) 0 h3.2.2.2.2.1.2.1 ++ List.set (List.replicate 1 0) 0 h3.2.2.2.2.2.1) (List.set (List.replicate 1 0) 0 (↑(List.length h0.1.1) : Int)) k else T16_3 h0.1.1 0 h0.1.1 h0.1.1 h0.1 false h0 h0 h0.1 ((A ++ List.flatMap fSm t1) ++ List.set (List.replicate 1 0) 0 h4.2.2.1.1 ++ List.set (List.replicate 1 0) 0 h4.2.2.1.2.1 ++ List.set (List.replicate 1 0) 0 h3.2.1 ++ List.set (List.replicate 1 0) 0 h3.2.2.1 ++ List.set (List.replicate 1 0) 0 h3.2.2.2.1 ++ List.set (List.replicate 1 0) 0 h3.2.2.2.2.1.1 ++ List.set (List.replicate 1 0) 0 h3.2.2.2.2.1.2.1 ++ List.set (List.replicate 1 0) 0 h3.2.2.2.2.2.1) (List.set (List.replicate 1 0) 0 (↑(List.length h0.1.1) : Int)) k else T16_3 h0.1.1 0 h0.1.1 h0.1.1 h0.1 false h0 h0 h0.1 ((A ++ List.flatMap fSm t1) ++ List.set (List.replicate 1 0) 0 h4.2.2.1.1 ++ List.set (List.replicate 1 0) 0 h4.2.2.1.2.1 ++ List.set (List.replicate 1 0) 0 h3.2.1 ++ List.set (List.replicate 1 0) 0 h3.2.2.1 ++ List.set (List.replicate 1 0) 0 h3.2.2.2.1 ++ List.set (List.replicate 1 0) 0 h3.2.2.2.2.1.1 ++ List.set (List.replicate 1 0) 0 h3.2.2.2.2.1.2.1 ++ List.set (List.replicate 1 0) 0 h3.2.2.2.2.2.1) (List.set (List.replicate 1 0) 0 (↑(List.length h0.1.1) : Int)) k else T16_3 h0.1.1 0 h0.1.1 h0.1.1 h0.1 false h0 h0 h0.1 ((A ++ List.flatMap fSm t1) ++ List.set (List.replicate 1 0) 0 h4.2.2.1.1 ++ List.set (List.replicate 1 0) 0 h4.2.2.1.2.1 ++ List.set (List.replicate 1 0) 0 h3.2.1 ++ List.set (List.replicate 1 0) 0 h3.2.2.1 ++ List.set (List.replicate 1 0) 0 h3.2.2.2.1 ++ List.set (List.replicate 1 0) 0 h3.2.2.2.2.1.1 ++ List.set (List.replicate 1 0) 0 h3.2.2.2.2.1.2.1 ++ List.set (List.replicate 1 0) 0 h3.2.2.2.2.2.1) (List.set (List.replicate 1 0) 0 (↑(List.length h0.1.1) : Int)) k else none else none else none else none else none else none else none else none : Option (denL [.bool])) = some y) : Ev fun k => T16_1 t1 0 u5 v10 w6 z4_6 h0 h3 h4 A k = some y :=
 put_loop (T := fun i A k => T16_1 t1 (i : Int) u5 v10 w6 z4_6 h0 h3 h4 A k) fSm t1 (0, 0, (0, 0, ()), ()) 2147483648 (fun i A hi hA h => R16_1 _ _ _ _ _ _ _ _ _ _ (Ev.eq (fun _ => bif_t (by omega) _ _) (Ev.eq (fun _ => bif_tt (by omega) (by omega) _ _) (by
  simp only [fSm, List.length_cons, List.length_nil] at hA
  simp (disch := first | omega | (simp only [one_set, List.length_append, List.length_cons, List.length_nil]; omega)) only [bif_t, wrap_succ]
  simp only [one_set, Int.toNat_natCast, List.append_assoc, List.cons_append, List.nil_append]
  exact h)))) hA (R16_1 _ _ _ _ _ _ _ _ _ _ (Ev.eq (fun _ => bif_f (by omega) _ _) h))
theorem st16_2 (v5 : Int) (z4_30 : Bool) (h0 : (Se × Int × Int × Int × Sp × Int × Unit)) (h6 : (List Int)) (h8 : (List Int)) (A : List Int) {y : denL [.bool]} (hA : List.length A + (List.flatMap fI h6).length ≤ 2147483648) (hl : List.length h6 < 1000000000000) (h : Ev fun k =>
 (bif decide (List.length (A ++ List.flatMap fI h6) + List.length (List.set (List.replicate 1 0) 0 v5) ≤ 2147483648) then T16_4 0 z4_30 h0 h6 ((A ++ List.flatMap fI h6) ++ List.set (List.replicate 1 0) 0 v5) h8 k else none : Option (denL [.bool])) = some y) : Ev fun k => T16_2 0 v5 z4_30 h0 h6 A h8 k = some y :=
 put_loop (T := fun i A k => T16_2 (i : Int) v5 z4_30 h0 h6 A h8 k) fI h6 0 2147483648 (fun i A hi hA h => R16_2 _ _ _ _ _ _ _ (Ev.eq (fun _ => bif_t (by omega) _ _) (Ev.eq (fun _ => bif_tt (by omega) (by omega) _ _) (by
  simp only [fI, List.length_cons, List.length_nil] at hA
  simp (disch := first | omega | (simp only [one_set, List.length_append, List.length_cons, List.length_nil]; omega)) only [bif_t, wrap_succ]
  simp only [one_set, Int.toNat_natCast]
  exact h)))) hA (R16_2 _ _ _ _ _ _ _ (Ev.eq (fun _ => bif_f (by omega) _ _) h))
theorem st16_3 (t1 : (List Sp)) (u5 : (List Sp)) (v6 : (List Sp)) (w6 : Se) (z4_5 : Bool) (z4_38 : (Se × Int × Int × Int × Sp × Int × Unit)) (h2 : (Se × Int × Int × Int × Sp × Int × Unit)) (h3 : Se) (h4 : (List Int)) (A : List Int) {y : denL [.bool]} (hA : List.length A + (List.flatMap fSp t1).length ≤ 2147483648) (hl : List.length t1 < 1000000000000) (h : Ev fun k =>
 (bif decide (List.length (A ++ List.flatMap fSp t1) + List.length (List.set (List.replicate 1 0) 0 (↑(List.length h3.2.1) : Int)) ≤ 2147483648) then T16_5 h3.2.1 0 h3.2.1 h3.2.1 w6 z4_5 z4_38 h2 h3 h4 ((A ++ List.flatMap fSp t1) ++ List.set (List.replicate 1 0) 0 (↑(List.length h3.2.1) : Int)) k else none : Option (denL [.bool])) = some y) : Ev fun k => T16_3 t1 0 u5 v6 w6 z4_5 z4_38 h2 h3 h4 A k = some y :=
 put_loop (T := fun i A k => T16_3 t1 (i : Int) u5 v6 w6 z4_5 z4_38 h2 h3 h4 A k) fSp t1 (0, 0, ()) 2147483648 (fun i A hi hA h => R16_3 _ _ _ _ _ _ _ _ _ _ _ (Ev.eq (fun _ => bif_t (by omega) _ _) (Ev.eq (fun _ => bif_tt (by omega) (by omega) _ _) (by
  simp only [fSp, List.length_cons, List.length_nil] at hA
  simp (disch := first | omega | (simp only [one_set, List.length_append, List.length_cons, List.length_nil]; omega)) only [bif_t, wrap_succ]
  simp only [one_set, Int.toNat_natCast, List.append_assoc, List.cons_append, List.nil_append]
  exact h)))) hA (R16_3 _ _ _ _ _ _ _ _ _ _ _ (Ev.eq (fun _ => bif_f (by omega) _ _) h))
theorem st16_4 (z4_30 : Bool) (h0 : (Se × Int × Int × Int × Sp × Int × Unit)) (h6 : (List Int)) (h7 : (List Int)) (h8 : (List Int)) {y : denL [.bool]} (hl : List.length h6 < 1000000000000) (h : Ev fun k =>
 (Option.bind (F30 (h0.1, h0.2.2.2.2.1, h0.2.2.2.2.2.1, ())) fun (y : List Int × Int × Unit) => T16_6 0 y.2.1 z4_30 h0 y.1 h7 h8 (List.set (List.replicate 1 0) 0 (↑(List.length y.1) : Int)) k : Option (denL [.bool])) = some y) : Ev fun k => T16_4 0 z4_30 h0 h6 h7 h8 k = some y :=
 wipe_loop (T := fun i l k => T16_4 (i : Int) z4_30 h0 l h7 h8 k) (-77) h6 (fun i l hl0 hi h => R16_4 _ _ _ _ _ _ (Ev.eq (fun _ => bif_t (by omega) _ _) (Ev.eq (fun _ => bif_tt (by omega) (by omega) _ _) (by
  simp (disch := omega) only [bif_t, Int.toNat_natCast, wrap_succ]
  exact h)))) (fun l hl0 => R16_4 _ _ _ _ _ _ (Ev.eq (fun _ => bif_f (by omega) _ _) h))
theorem st16_5 (t1 : (List Sm)) (u5 : (List Sm)) (v10 : (List Sm)) (w6 : Se) (z4_5 : Bool) (z4_38 : (Se × Int × Int × Int × Sp × Int × Unit)) (h2 : (Se × Int × Int × Int × Sp × Int × Unit)) (h3 : Se) (h4 : (List Int)) (A : List Int) {y : denL [.bool]} (hA : List.length A + (List.flatMap fSm t1).length ≤ 2147483648) (hl : List.length t1 < 1000000000000) (h : Ev fun _ =>
 (bif decide (List.length (A ++ List.flatMap fSm t1) + List.length (List.set (List.replicate 1 0) 0 h3.2.2.1.1) ≤ 2147483648) then bif decide (List.length ((A ++ List.flatMap fSm t1) ++ List.set (List.replicate 1 0) 0 h3.2.2.1.1) + List.length (List.set (List.replicate 1 0) 0 h3.2.2.1.2.1) ≤ 2147483648) then bif decide (List.length ((A ++ List.flatMap fSm t1) ++ List.set (List.replicate 1 0) 0 h3.2.2.1.1 ++ List.set (List.replicate 1 0) 0 h3.2.2.1.2.1) + List.length (List.set (List.replicate 1 0) 0 h2.2.1) ≤ 2147483648) then bif decide (List.length ((A ++ List.flatMap fSm t1) ++ List.set (List.replicate 1 0) 0 h3.2.2.1.1 ++ List.set (List.replicate 1 0) 0 h3.2.2.1.2.1 ++ List.set (List.replicate 1 0) 0 h2.2.1) + List.length (List.set (List.replicate 1 0) 0 h2.2.2.1) ≤ 2147483648) then bif decide (List.length ((A ++ List.flatMap fSm t1) ++ List.set (List.replicate 1 0) 0 h3.2.2.1.1 ++ List.set (List.replicate 1 0) 0 h3.2.2.1.2.1 ++ List.set (List.replicate 1 0) 0 h2.2.1 ++ List.set (List.replicate 1 0) 0 h2.2.2.1) + List.length (List.set (List.replicate 1 0) 0 h2.2.2.2.1) ≤ 2147483648) then bif decide (List.length ((A ++ List.flatMap fSm t1) ++ List.set (List.replicate 1 0) 0 h3.2.2.1.1 ++ List.set (List.replicate 1 0) 0 h3.2.2.1.2.1 ++ List.set (List.replicate 1 0) 0 h2.2.1 ++ List.set (List.replicate 1 0) 0 h2.2.2.1 ++ List.set (List.replicate 1 0) 0 h2.2.2.2.1) + List.length (List.set (List.replicate 1 0) 0 h2.2.2.2.2.1.1) ≤ 2147483648) then bif decide (List.length ((A ++ List.flatMap fSm t1) ++ List.set (List.replicate 1 0) 0 h3.2.2.1.1 ++ List.set (List.replicate 1 0) 0 h3.2.2.1.2.1 ++ List.set (List.replicate 1 0) 0 h2.2.1 ++ List.set (List.replicate 1 0) 0 h2.2.2.1 ++ List.set (List.replicate 1 0) 0 h2.2.2.2.1 ++ List.set (List.replicate 1 0) 0 h2.2.2.2.2.1.1) + List.length (List.set (List.replicate 1 0) 0 h2.2.2.2.2.1.2.1) ≤ 2147483648) then bif decide (List.length ((A ++ List.flatMap fSm t1) ++ List.set (List.replicate 1 0) 0 h3.2.2.1.1 ++ List.set (List.replicate 1 0) 0 h3.2.2.1.2.1 ++ List.set (List.replicate 1 0) 0 h2.2.1 ++ List.set (List.replicate 1 0) 0 h2.2.2.1 ++ List.set (List.replicate 1 0) 0 h2.2.2.2.1 ++ List.set (List.replicate 1 0) 0 h2.2.2.2.2.1.1 ++ List.set (List.replicate 1 0) 0 h2.2.2.2.2.1.2.1) + List.length (List.set (List.replicate 1 0) 0 h2.2.2.2.2.2.1) ≤ 2147483648) then bif z4_5 then Option.bind (F78 ((h4, [], ()), ((A ++ List.flatMap fSm t1) ++ List.set (List.replicate 1 0) 0 h3.2.2.1.1 ++ List.set (List.replicate 1 0) 0 h3.2.2.1.2.1 ++ List.set (List.replicate 1 0) 0 h2.2.1 ++ List.set (List.replicate 1 0) 0 h2.2.2.1 ++ List.set (List.replicate 1 0) 0 h2.2.2.2.1 ++ List.set (List.replicate 1 0) 0 h2.2.2.2.2.1.1 ++ List.set (List.replicate 1 0) 0 h2.2.2.2.2.1.2.1 ++ List.set (List.replicate 1 0) 0 h2.2.2.2.2.2.1, [], ()), ())) fun (y : Bool × Unit) => bif y.1 then Option.bind (F23 ()) fun (y : Bool × Unit) => some (y.1, ()) else some (false, ()) else some (false, ()) else none else none else none else none else none else none else none else none : Option (denL [.bool])) = some y) : Ev fun k => T16_5 t1 0 u5 v10 w6 z4_5 z4_38 h2 h3 h4 A k = some y :=
 put_loop (T := fun i A k => T16_5 t1 (i : Int) u5 v10 w6 z4_5 z4_38 h2 h3 h4 A k) fSm t1 (0, 0, (0, 0, ()), ()) 2147483648 (fun i A hi hA h => R16_5 _ _ _ _ _ _ _ _ _ _ _ (Ev.eq (fun _ => bif_t (by omega) _ _) (Ev.eq (fun _ => bif_tt (by omega) (by omega) _ _) (by
  simp only [fSm, List.length_cons, List.length_nil] at hA
  simp (disch := first | omega | (simp only [one_set, List.length_append, List.length_cons, List.length_nil]; omega)) only [bif_t, wrap_succ]
  simp only [one_set, Int.toNat_natCast, List.append_assoc, List.cons_append, List.nil_append]
  exact h)))) hA (R16_5 _ _ _ _ _ _ _ _ _ _ _ (Ev.eq (fun _ => bif_f (by omega) _ _) h))
theorem st16_6 (v5 : Int) (z4_30 : Bool) (h0 : (Se × Int × Int × Int × Sp × Int × Unit)) (h6 : (List Int)) (h7 : (List Int)) (h8 : (List Int)) (A : List Int) {y : denL [.bool]} (hA : List.length A + (List.flatMap fI h6).length ≤ 2147483648) (hl : List.length h6 < 1000000000000) (h : Ev fun k =>
 (bif decide (List.length (A ++ List.flatMap fI h6) + List.length (List.set (List.replicate 1 0) 0 v5) ≤ 2147483648) then Option.bind (F78 ((h7, [], ()), ((A ++ List.flatMap fI h6) ++ List.set (List.replicate 1 0) 0 v5, [], ()), ())) fun (y : Bool × Unit) => bif bif z4_30 then y.1 else false then Option.bind (F33 (h0.1, ())) fun (y : List Int × Int × Unit) => T16_7 0 y.2.1 true h0 y.1 h8 (List.set (List.replicate 1 0) 0 (↑(List.length y.1) : Int)) k else T16_3 h0.1.1 0 h0.1.1 h0.1.1 h0.1 false h0 h0 h0.1 h8 (List.set (List.replicate 1 0) 0 (↑(List.length h0.1.1) : Int)) k else none : Option (denL [.bool])) = some y) : Ev fun k => T16_6 0 v5 z4_30 h0 h6 h7 h8 A k = some y :=
 put_loop (T := fun i A k => T16_6 (i : Int) v5 z4_30 h0 h6 h7 h8 A k) fI h6 0 2147483648 (fun i A hi hA h => R16_6 _ _ _ _ _ _ _ _ (Ev.eq (fun _ => bif_t (by omega) _ _) (Ev.eq (fun _ => bif_tt (by omega) (by omega) _ _) (by
  simp only [fI, List.length_cons, List.length_nil] at hA
  simp (disch := first | omega | (simp only [one_set, List.length_append, List.length_cons, List.length_nil]; omega)) only [bif_t, wrap_succ]
  simp only [one_set, Int.toNat_natCast]
  exact h)))) hA (R16_6 _ _ _ _ _ _ _ _ (Ev.eq (fun _ => bif_f (by omega) _ _) h))
theorem st16_7 (v5 : Int) (z4_34 : Bool) (h0 : (Se × Int × Int × Int × Sp × Int × Unit)) (h6 : (List Int)) (h7 : (List Int)) (A : List Int) {y : denL [.bool]} (hA : List.length A + (List.flatMap fI h6).length ≤ 2147483648) (hl : List.length h6 < 1000000000000) (h : Ev fun k =>
 (bif decide (List.length (A ++ List.flatMap fI h6) + List.length (List.set (List.replicate 1 0) 0 v5) ≤ 2147483648) then T16_8 0 z4_34 h0 h6 h7 ((A ++ List.flatMap fI h6) ++ List.set (List.replicate 1 0) 0 v5) k else none : Option (denL [.bool])) = some y) : Ev fun k => T16_7 0 v5 z4_34 h0 h6 h7 A k = some y :=
 put_loop (T := fun i A k => T16_7 (i : Int) v5 z4_34 h0 h6 h7 A k) fI h6 0 2147483648 (fun i A hi hA h => R16_7 _ _ _ _ _ _ _ (Ev.eq (fun _ => bif_t (by omega) _ _) (Ev.eq (fun _ => bif_tt (by omega) (by omega) _ _) (by
  simp only [fI, List.length_cons, List.length_nil] at hA
  simp (disch := first | omega | (simp only [one_set, List.length_append, List.length_cons, List.length_nil]; omega)) only [bif_t, wrap_succ]
  simp only [one_set, Int.toNat_natCast]
  exact h)))) hA (R16_7 _ _ _ _ _ _ _ (Ev.eq (fun _ => bif_f (by omega) _ _) h))
theorem st16_8 (z4_34 : Bool) (h0 : (Se × Int × Int × Int × Sp × Int × Unit)) (h6 : (List Int)) (h7 : (List Int)) (h8 : (List Int)) {y : denL [.bool]} (hl : List.length h6 < 1000000000000) (h : Ev fun k =>
 (Option.bind (F33 (h0.1, ())) fun (y : List Int × Int × Unit) => T16_9 0 y.2.1 z4_34 h0 y.1 (List.set (List.replicate 1 0) 0 (↑(List.length y.1) : Int)) h7 h8 k : Option (denL [.bool])) = some y) : Ev fun k => T16_8 0 z4_34 h0 h6 h7 h8 k = some y :=
 wipe_loop (T := fun i l k => T16_8 (i : Int) z4_34 h0 l h7 h8 k) (-77) h6 (fun i l hl0 hi h => R16_8 _ _ _ _ _ _ (Ev.eq (fun _ => bif_t (by omega) _ _) (Ev.eq (fun _ => bif_tt (by omega) (by omega) _ _) (by
  simp (disch := omega) only [bif_t, Int.toNat_natCast, wrap_succ]
  exact h)))) (fun l hl0 => R16_8 _ _ _ _ _ _ (Ev.eq (fun _ => bif_f (by omega) _ _) h))
theorem st16_9 (v5 : Int) (z4_34 : Bool) (h0 : (Se × Int × Int × Int × Sp × Int × Unit)) (h6 : (List Int)) (h8 : (List Int)) (h9 : (List Int)) (A : List Int) {y : denL [.bool]} (hA : List.length A + (List.flatMap fI h6).length ≤ 2147483648) (hl : List.length h6 < 1000000000000) (h : Ev fun k =>
 (bif decide (List.length (A ++ List.flatMap fI h6) + List.length (List.set (List.replicate 1 0) 0 v5) ≤ 2147483648) then Option.bind (F78 ((h9, [], ()), ((A ++ List.flatMap fI h6) ++ List.set (List.replicate 1 0) 0 v5, [], ()), ())) fun (y : Bool × Unit) => T16_3 h0.1.1 0 h0.1.1 h0.1.1 h0.1 (bif z4_34 then y.1 else false) h0 h0 h0.1 h8 (List.set (List.replicate 1 0) 0 (↑(List.length h0.1.1) : Int)) k else none : Option (denL [.bool])) = some y) : Ev fun k => T16_9 0 v5 z4_34 h0 h6 A h8 h9 k = some y :=
 put_loop (T := fun i A k => T16_9 (i : Int) v5 z4_34 h0 h6 A h8 h9 k) fI h6 0 2147483648 (fun i A hi hA h => R16_9 _ _ _ _ _ _ _ _ (Ev.eq (fun _ => bif_t (by omega) _ _) (Ev.eq (fun _ => bif_tt (by omega) (by omega) _ _) (by
  simp only [fI, List.length_cons, List.length_nil] at hA
  simp (disch := first | omega | (simp only [one_set, List.length_append, List.length_cons, List.length_nil]; omega)) only [bif_t, wrap_succ]
  simp only [one_set, Int.toNat_natCast]
  exact h)))) hA (R16_9 _ _ _ _ _ _ _ _ (Ev.eq (fun _ => bif_f (by omega) _ _) h))
theorem L16 (x : Se × Int × Int × Int × Sp × Int × Unit) (hx : 2 * x.1.1.length + 4 * x.1.2.1.length ≤ 2000000000) : F16 (x, ()) = some (true, ()) := by
 obtain ⟨⟨B, S, gap, u⟩, yr, fr, un, nb, sn, u'⟩ := x
 simp only at hx
 have hB := putL_len fSp 2 (fun _ => rfl) B
 have hS := putL_len fSm 4 (fun _ => rfl) S
 apply N16
 simp only [one_set]
 generalize hs : ((B, S, gap, u) : Se) = s
 generalize hxx : ((s, yr, fr, un, nb, sn, u') : Se × Int × Int × Int × Sp × Int × Unit) = x
 have e1 : s.1 = B := by rw [← hs]
 have e2 : s.2.1 = S := by rw [← hs]
 have e3 : s.2.2.1 = gap := by rw [← hs]
 have x1 : x.1 = s := by rw [← hxx]
 have x2 : x.2.1 = yr := by rw [← hxx]
 have x3 : x.2.2.1 = fr := by rw [← hxx]
 have x4 : x.2.2.2.1 = un := by rw [← hxx]
 have x5 : x.2.2.2.2.1 = nb := by rw [← hxx]
 have x6 : x.2.2.2.2.2.1 = sn := by rw [← hxx]
 have l17 : F17 (s, ()) = some (chkP s) := L17 s
 have l19 : F19 (s, yr, ()) = some (numberP s yr) := L19 s yr
 have l21 : F21 (s, fr, un, ()) = some (meanP s fr un) := L21 s fr un
 have l24 : F24 (s, yr, ()) = some (turnsP s yr) := L24 s yr
 have l26 : F26 (s, ()) = some (gapsP s) := L26 s
 have l28 : F28 (s, ()) = some (nextP s) := L28 s
 have l30 : F30 (s, nb, sn, ()) = some (wreckP s nb sn) := L30 s nb sn
 have l33 : F33 (s, ()) = some (wrongP s) := L33 s
 have h30 : (wreckP s nb sn).1.length ≤ 2000000000 := by
  unfold wreckP
  split
  ·refine Nat.le_trans (numsL_len _ _) ?_
   rw [e1]; omega
  ·simp
 have h33 : (wrongP s).1.length ≤ 2000000000 := by
  unfold wrongP
  split
  ·split
   ·simp only
    rcases scan_mem (okW s) (setsL s.2.1.length 0 (2 ^ s.2.1.length)) [] false with h | h
    ·rw [h]; simp
    ·unfold setsL at h
     obtain ⟨set, _, h2⟩ := List.mem_map.1 h
     have := numsL_len (set.testBit ·) s.2.1.length
     rw [h2, e2] at this
     unfold setsL
     rw [e2]
     omega
   ·simp
  ·simp
 generalize hW : ((B.length : Int) :: (B.flatMap fSp ++ (S.length : Int) :: (S.flatMap fSm ++ [gap.1, gap.2.1, yr, fr, un, nb.1, nb.2.1, sn])) : List Int) = W
 have hWl : W.length ≤ 4294967296 := by
  rw [← hW]
  simp only [List.length_append, List.length_cons, List.length_nil, hB, hS]
  omega
 have is : Ev fun k => T16_3 B 0 B B s true x x s W [(B.length : Int)] k = some (true, ()) := by
  apply st16_3
  ·rw [hB]; simp only [List.length_cons, List.length_nil]; omega
  ·omega
  simp only [e2]
  simp (disch := first | omega | (simp only [one_set, List.length_append, List.length_cons, List.length_nil, hB, hS]; omega)) only [bif_t]
  simp only [one_set, List.cons_append, List.nil_append]
  apply st16_5
  ·rw [hS]; simp only [List.length_append, List.length_cons, List.length_nil, hB]; omega
  ·omega
  simp only [e3, x2, x3, x4, x5, x6]
  simp (disch := first | omega | (simp only [one_set, List.length_append, List.length_cons, List.length_nil, hB, hS]; omega)) only [bif_t, bif_tru]
  simp only [one_set, List.append_assoc, List.cons_append, List.nil_append]
  rw [show ((B.length : Int) :: (B.flatMap fSp ++ (S.length : Int) :: (S.flatMap fSm ++ [gap.1, gap.2.1, yr, fr, un, nb.1, nb.2.1, sn])) : List Int) = W from hW, L78 _ hWl]
  simp only [Option.bind_some, bif_tru, L23]
  exact Ev.all fun _ => trivial
 have s33 : Ev fun k => T16_7 0 (wrongP s).2.1 true x (wrongP s).1 W [((wrongP s).1.length : Int)] k = some (true, ()) := by
  have hl := putL_len fI 1 (fun _ => rfl) (wrongP s).1
  apply st16_7
  ·rw [hl]; simp only [List.length_cons, List.length_nil]; omega
  ·omega
  simp (disch := first | omega | (simp only [one_set, List.length_append, List.length_cons, List.length_nil, hB, hS, hl]; omega)) only [bif_t]
  apply st16_8
  ·omega
  simp only [x1, l33, Option.bind_some]
  apply st16_9
  ·rw [hl]; simp only [one_set, List.length_cons, List.length_nil]; omega
  ·omega
  simp (disch := first | omega | (simp only [one_set, List.length_append, List.length_cons, List.length_nil, hB, hS, hl]; omega)) only [bif_t, bif_tru]
  simp only [one_set]
  rw [L78 _ (by simp only [List.length_append, List.length_cons, List.length_nil, hl]; omega)]
  simp only [Option.bind_some, x1, e1]
  exact is
 have s30 : Ev fun k => T16_2 0 (wreckP s nb sn).2.1 true x (wreckP s nb sn).1 [((wreckP s nb sn).1.length : Int)] W k = some (true, ()) := by
  have hl := putL_len fI 1 (fun _ => rfl) (wreckP s nb sn).1
  apply st16_2
  ·rw [hl]; simp only [List.length_cons, List.length_nil]; omega
  ·omega
  simp (disch := first | omega | (simp only [one_set, List.length_append, List.length_cons, List.length_nil, hB, hS, hl]; omega)) only [bif_t]
  apply st16_4
  ·omega
  simp only [x1, x5, x6, l30, Option.bind_some]
  apply st16_6
  ·rw [hl]; simp only [one_set, List.length_cons, List.length_nil]; omega
  ·omega
  simp (disch := first | omega | (simp only [one_set, List.length_append, List.length_cons, List.length_nil, hB, hS, hl]; omega)) only [bif_t, bif_tru]
  simp only [one_set]
  rw [L78 _ (by simp only [List.length_append, List.length_cons, List.length_nil, hl]; omega)]
  simp only [Option.bind_some, bif_tru, x1, e1, l33]
  exact s33
 apply st16_0
 ·rw [hB]; simp only [List.length_cons, List.length_nil]; omega
 ·omega
 simp only [e2]
 simp (disch := first | omega | (simp only [one_set, List.length_append, List.length_cons, List.length_nil, hB, hS]; omega)) only [bif_t]
 simp only [one_set, List.cons_append, List.nil_append]
 apply st16_1
 ·rw [hS]; simp only [List.length_append, List.length_cons, List.length_nil, hB]; omega
 ·omega
 simp only [e3, x2, x3, x4, x5, x6]
 simp (disch := first | omega | (simp only [one_set, List.length_append, List.length_cons, List.length_nil, hB, hS]; omega)) only [bif_t]
 simp only [one_set, List.append_assoc, List.cons_append, List.nil_append]
 rw [show ((B.length : Int) :: (B.flatMap fSp ++ (S.length : Int) :: (S.flatMap fSm ++ [gap.1, gap.2.1, yr, fr, un, nb.1, nb.2.1, sn])) : List Int) = W from hW]
 simp only [Option.bind_some, bif_tru, x1, l17, l19, l21, l24, l26, l28, l30, L78 _ (show List.length [_, _, _, _, _] ≤ 4294967296 by simp), L78 _ (show List.length [_, _, _] ≤ 4294967296 by simp)]
 exact s30
end Go.Proofs.YtkbephbhajplhaaDoor
/- The context for TopAnewCycle is the program's. Conditions: none. -/
namespace Go.Proofs.YtkbephbhajplhaaDoor
open Go Go.Gh Go.Proofs
theorem ok78 : CtxOK' cx78 := CtxOK'.add ok23 (f := 78) (c := C78) (ghost_ok ok23 S78 6000 78 _ _) (fn_is (List.mem_range.2 (by decide)) (by kernel_rfl))
theorem fok30 : FConOK cx30s122v0 30 C30 := ghostF_ok ok30s122v0 memo_plain S30 6000 30 _ _ (by kernel_rfl) (by kernel_rfl)
theorem fok33 : FConOK cx21 33 C33 := ghostF_ok ok21 memo_plain S33 6000 33 _ _ (by kernel_rfl) (by kernel_rfl)
theorem ctx_is {cx : Ctx} (h : cx.P = Tryd.prog ∧ cx.glob = globs ∧ cx.memo = memoC) {cx' : Ctx} (h' : cx'.P = Tryd.prog ∧ cx'.glob = globs ∧ cx'.memo = memoC) {f : FuncId} {c : Con} (hc : FConOK cx f c) : FConOK cx' f c :=
 FConOK.ctx (h'.1.trans h.1.symm) (h'.2.1.trans h.2.1.symm) (h'.2.2.trans h.2.2.symm) hc
theorem addF_is {cx : Ctx} (h : cx.P = Tryd.prog ∧ cx.glob = globs ∧ cx.memo = memoC) (f : FuncId) (c : Con) : (cx.addF f c).P = Tryd.prog ∧ (cx.addF f c).glob = globs ∧ (cx.addF f c).memo = memoC := h
theorem is78 : cx78.P = Tryd.prog ∧ cx78.glob = globs ∧ cx78.memo = memoC := ⟨by kernel_rfl, by kernel_rfl, by kernel_rfl⟩
theorem is30 : cx30s122v0.P = Tryd.prog ∧ cx30s122v0.glob = globs ∧ cx30s122v0.memo = memoC := ⟨by kernel_rfl, by kernel_rfl, by kernel_rfl⟩
theorem is21 : cx21.P = Tryd.prog ∧ cx21.glob = globs ∧ cx21.memo = memoC := ⟨by kernel_rfl, by kernel_rfl, by kernel_rfl⟩
theorem okT30 : CtxOK' (cx78.addF 30 C30) := CtxOK'.addF ok78 (f := 30) (c := C30) (ctx_is is30 is78 fok30) (by rw [is78.1]; exact fn_is (List.mem_range.2 (by decide)) (by kernel_rfl))
theorem okT33 : CtxOK' ((cx78.addF 30 C30).addF 33 C33) := CtxOK'.addF okT30 (f := 33) (c := C33) (ctx_is is21 (addF_is is78 30 C30) fok33) (by rw [(addF_is is78 30 C30).1]; exact fn_is (List.mem_range.2 (by decide)) (by kernel_rfl))
theorem okT : CtxOK' cxT := CtxOK'.setTwin okT33 _
end Go.Proofs.YtkbephbhajplhaaDoor
