/- Loops that put lists and that write over them. Conditions: as each lemma states. -/
import Derived.Test.YtkhhbpocmmmnmaaGhI
import Derived.Test.YtkhhbpocmmmnmaaTuTr
import Derived.Test.YtkhhbpocmmmnmaaTuN
import Derived.Test.YtkhhbpocmmmnmaaTuG
import Derived.Test.YtkhhbpocmmmnmaaTuH
import Derived.Test.YtkhhbpocmmmnmaaGhG
namespace Go.Gh
theorem bif_t {α : Type} {p : Prop} [Decidable p] (h : p) (a b : α) : (bif decide p then a else b) = a := by rw [decide_eq_true h]; rfl
theorem bif_f {α : Type} {p : Prop} [Decidable p] (h : ¬ p) (a b : α) : (bif decide p then a else b) = b := by rw [decide_eq_false h]; rfl
theorem bif_tt {α : Type} {p q : Prop} [Decidable p] [Decidable q] (h : p) (h' : q) (a b : α) : (bif decide p && decide q then a else b) = a := by rw [decide_eq_true h, decide_eq_true h']; rfl
theorem bif_tru {α : Type} (a b : α) : (bif true then a else b) = a := rfl
theorem bif_fls {α : Type} (a b : α) : (bif false then a else b) = b := rfl
theorem rep0 (x : Int) : x :: List.replicate 0 0 = [x] := rfl
theorem put_loop {α R : Type} {T : Nat → List Int → Nat → Option R} {y : R} (f : α → List Int) (l : List α) (d : α) (B : Nat)
  (hstep : ∀ i A, i < l.length → List.length A + (f (l.getD i d)).length ≤ B → (Ev fun k => T (i + 1) (A ++ f (l.getD i d)) k = some y) → Ev fun k => T i A k = some y)
  {A : List Int} (hA : A.length + (l.flatMap f).length ≤ B) (h : Ev fun k => T l.length (A ++ l.flatMap f) k = some y) : Ev fun k => T 0 A k = some y := by
 have key : ∀ (c i : Nat) (A : List Int), i + c = l.length → A.length + ((l.drop i).flatMap f).length ≤ B → (Ev fun k => T l.length (A ++ (l.drop i).flatMap f) k = some y) → Ev fun k => T i A k = some y := by
  intro c
  induction c with
  | zero =>
   intro i A hi _ h
   obtain rfl : i = l.length := by omega
   simpa using h
  | succ c ih =>
   intro i A hi hb h
   have hil : i < l.length := by omega
   have e : l.getD i d = l[i] := getD_lt hil
   rw [List.drop_eq_getElem_cons hil, List.flatMap_cons, List.length_append] at hb
   rw [List.drop_eq_getElem_cons hil, List.flatMap_cons] at h
   refine hstep i A hil (by rw [e]; omega) (ih (i + 1) _ (by omega) (by rw [e, List.length_append]; omega) ?_)
   rw [e, List.append_assoc]
   exact h
 exact key l.length 0 A (by omega) (by simpa using hA) (by simpa using h)
theorem wipe_loop {α R : Type} {T : Nat → List α → Nat → Option R} {y : R} (v : α) (l : List α) (hstep : ∀ i l', l'.length = l.length → i < l'.length → (Ev fun k => T (i + 1) (l'.set i v) k = some y) → Ev fun k => T i l' k = some y)
  (h : ∀ l', l'.length = l.length → Ev fun k => T l'.length l' k = some y) : Ev fun k => T 0 l k = some y := by
 have key : ∀ (c i : Nat) (l' : List α), i + c = l'.length → l'.length = l.length → Ev fun k => T i l' k = some y := by
  intro c
  induction c with
  | zero =>
   intro i l' hi hl
   obtain rfl : i = l'.length := by omega
   exact h l' hl
  | succ c ih =>
   intro i l' hi hl
   exact hstep i l' hl (by omega) (ih (i + 1) _ (by rw [List.length_set]; omega) (by rw [List.length_set]; exact hl))
 exact key l.length 0 l (by omega) rfl
theorem putL_len {α : Type} (f : α → List Int) (n : Nat) (hf : ∀ x, (f x).length = n) : ∀ l : List α, (l.flatMap f).length = n * l.length
 | [] => by simp
 | x :: l => by rw [List.flatMap_cons, List.length_append, putL_len f n hf l, hf, List.length_cons, Nat.mul_succ]; omega
theorem put_id : ∀ l : List Int, l.flatMap (fun x => [x]) = l
 | [] => rfl
 | x :: l => by rw [List.flatMap_cons, put_id l]; rfl
theorem scan_mem (ok : List Int → Bool) : ∀ (ls : List (List Int)) (b : List Int) (f : Bool), (Few.scan ok ls b f).1 = b ∨ (Few.scan ok ls b f).1 ∈ ls
 | [], b, f => .inl rfl
 | l :: ls, b, f => by
  unfold Few.scan
  split
  ·rcases scan_mem ok ls b f with h | h
   ·exact .inl h
   ·exact .inr (List.mem_cons_of_mem _ h)
  ·split
   ·rcases scan_mem ok ls l true with h | h
    ·exact .inr (by rw [h]; exact List.mem_cons_self ..)
    ·exact .inr (List.mem_cons_of_mem _ h)
   ·rcases scan_mem ok ls b f with h | h
    ·exact .inl h
    ·exact .inr (List.mem_cons_of_mem _ h)
end Go.Gh
/- No function of package turning changes an argument, or keeps what it returns. Conditions: as each lemma states. -/
namespace Go.Proofs.Ytkhhbpocmmmnmaa
open Go Go.Gh Go.Proofs
theorem L75 (n : List Int) (hn : n.length ≤ 4294967296) : F75 ((n, [], ()), (n, [], ()), ()) = some (true, ()) := by
 refine N75 _ _ ?_
 simp only [bne_self_eq_false, bif_fls]
 have key : ∀ (c i : Nat), i + c = n.length → Ev fun k => T75_0 (i : Int) (n, [], ()) (n, [], ()) k = some (true, ()) := by
  intro c
  induction c with
  | zero =>
   intro i hi
   apply R75_0
   simp (disch := omega) only [bif_f]
   apply R75_1
   exact Ev.all fun _ => by first | rfl | trivial
  | succ c ih =>
   intro i hi
   apply R75_0
   have hil : i < n.length := by omega
   simp (disch := omega) only [bif_t, bif_tt, wrap_succ, bne_self_eq_false, bif_fls]
   exact ih (i + 1) (by omega)
 exact key n.length 0 (by omega)
def fSp (x : Sp) : List Int := [x.1, x.2.1]
def fSn (x : Sn) : List Int := [x.1, x.2.1, x.2.2.1]
def fTl (x : Tl) : List Int := [x.1, x.2.1, bif x.2.2.1 then 1 else 0]
def fI (x : Int) : List Int := [x]
def wasP (B : List Sp) (off : Int) (S : List Sn) (T : List Tl) (b a c sn day : Int) : List Int := (B.length : Int) :: (B.flatMap fSp ++ off :: (S.length : Int) :: (S.flatMap fSn ++ (T.length : Int) :: (T.flatMap fTl ++ [b, a, c, sn, day])))
theorem L18 (x : Su × Int × Int × Int × Int × Int × Unit) (hx : 2 * x.1.1.length + 3 * x.1.2.2.1.length + 3 * x.1.2.2.2.1.length ≤ 2000000000) : F18 (x, ()) = some (true, ()) := by
 obtain ⟨⟨B, off, S, T, u⟩, b, a, c, sn, day, u'⟩ := x
 simp only at hx
 have hB := putL_len fSp 2 (fun _ => rfl) B
 have hS := putL_len fSn 3 (fun _ => rfl) S
 have hT := putL_len fTl 3 (fun _ => rfl) T
 apply N18
 simp only [one_set]
 have hf : (fewestP (B, off, S, T, u)).1.length ≤ 2000000000 := by
  unfold fewestP
  split
  ·rw [List.length_take]; simp only; omega
  ·simp
 have hw : (wrongP (B, off, S, T, u)).1.length ≤ 2000000000 := by
  unfold wrongP
  split
  ·split
   ·simp only
    rcases scan_mem (okW (B, off, S, T, u)) (setsL T.length 0 (2 ^ T.length)) [] false with h | h
    ·rw [h]; simp
    ·unfold setsL at h
     obtain ⟨set, _, h2⟩ := List.mem_map.1 h
     have := numsL_len (set.testBit ·) T.length
     rw [h2] at this
     unfold setsL
     omega
   ·simp
  ·simp
 generalize hs : ((B, off, S, T, u) : Su) = s at hf hw
 generalize hxx : ((s, b, a, c, sn, day, u') : Su × Int × Int × Int × Int × Int × Unit) = x
 have e1 : s.1 = B := by rw [← hs]
 have e2 : s.2.1 = off := by rw [← hs]
 have e3 : s.2.2.1 = S := by rw [← hs]
 have e4 : s.2.2.2.1 = T := by rw [← hs]
 have x1 : x.1 = s := by rw [← hxx]
 have x2 : x.2.1 = b := by rw [← hxx]
 have x3 : x.2.2.1 = a := by rw [← hxx]
 have x4 : x.2.2.2.1 = c := by rw [← hxx]
 have x5 : x.2.2.2.2.1 = sn := by rw [← hxx]
 have x6 : x.2.2.2.2.2.1 = day := by rw [← hxx]
 have hW : (wasP B off S T b a c sn day).length ≤ 4294967296 := by
  simp only [wasP, List.length_append, List.length_cons, List.length_nil, hB, hS, hT]
  omega
 have is : Ev fun k => T18_4 B 0 B B s true x x s (wasP B off S T b a c sn day) [(B.length : Int)] k = some (true, ()) := by
  refine put_loop (T := fun i A k => T18_4 B (i : Int) B B s true x x s (wasP B off S T b a c sn day) A k) fSp B (0, 0, ()) 2147483648 (fun i A hi hA h => ?_) (by rw [hB]; simp only [List.length_cons, List.length_nil]; omega) ?_
  ·apply R18_4
   simp only [fSp, List.length_cons, List.length_nil] at hA
   simp (disch := first | omega | (simp only [one_set, List.length_append, List.length_cons, List.length_nil, hB, hS, hT]; omega)) only [bif_t, bif_tt, wrap_succ]
   simp only [one_set, Int.toNat_natCast, List.append_assoc, List.cons_append, List.nil_append]
   exact h
  apply R18_4
  simp only [e2, e3]
  simp (disch := first | omega | (simp only [one_set, List.length_append, List.length_cons, List.length_nil, hB, hS, hT]; omega)) only [bif_t, bif_f, wrap_succ]
  simp only [one_set, List.append_assoc, List.cons_append, List.nil_append]
  refine put_loop (T := fun i A k => T18_6 S (i : Int) S S s true x x s (wasP B off S T b a c sn day) A k) fSn S (0, 0, 0, ()) 2147483648 (fun i A hi hA h => ?_) (by rw [hS]; simp only [List.length_append, List.length_cons, List.length_nil, hB]; omega) ?_
  ·apply R18_6
   simp only [fSn, List.length_cons, List.length_nil] at hA
   simp (disch := first | omega | (simp only [one_set, List.length_append, List.length_cons, List.length_nil, hB, hS, hT]; omega)) only [bif_t, bif_tt, wrap_succ]
   simp only [one_set, Int.toNat_natCast, List.append_assoc, List.cons_append, List.nil_append]
   exact h
  apply R18_6
  simp only [e4]
  simp (disch := first | omega | (simp only [one_set, List.length_append, List.length_cons, List.length_nil, hB, hS, hT]; omega)) only [bif_t, bif_f, wrap_succ]
  simp only [one_set, List.append_assoc, List.cons_append, List.nil_append]
  refine put_loop (T := fun i A k => T18_8 T (i : Int) T T s true x x (wasP B off S T b a c sn day) A k) fTl T (0, 0, false, ()) 2147483648 (fun i A hi hA h => ?_) (by rw [hT]; simp only [List.length_append, List.length_cons, List.length_nil, hB, hS]; omega) ?_
  ·apply R18_8
   simp only [fTl, List.length_cons, List.length_nil] at hA h
   simp only [Int.toNat_natCast]
   cases hb : (T.getD i (0, 0, false, ())).2.2.1 with
   | true =>
    rw [hb] at h
    simp (disch := first | omega | (simp only [one_set, List.length_append, List.length_cons, List.length_nil, hB, hS, hT]; omega)) only [bif_t, bif_tt, bif_tru, wrap_succ]
    simp only [one_set, rep0, List.append_assoc, List.cons_append, List.nil_append]
    exact h
   | false =>
    rw [hb] at h
    simp (disch := first | omega | (simp only [one_set, List.length_append, List.length_cons, List.length_nil, hB, hS, hT]; omega)) only [bif_t, bif_tt, bif_tru, bif_fls, wrap_succ]
    simp only [one_set, rep0, List.append_assoc, List.cons_append, List.nil_append]
    exact h
  apply R18_8
  simp only [x2, x3, x4, x5, x6]
  simp (disch := first | omega | (simp only [one_set, List.length_append, List.length_cons, List.length_nil, hB, hS, hT]; omega)) only [bif_t, bif_f, bif_tru, wrap_succ]
  simp only [one_set, List.append_assoc, List.cons_append, List.nil_append]
  rw [show ((B.length : Int) :: (B.flatMap fSp ++ off :: (S.length : Int) :: (S.flatMap fSn ++ (T.length : Int) :: (T.flatMap fTl ++ [b, a, c, sn, day])))) = wasP B off S T b a c sn day from rfl, L75 _ hW]
  simp only [Option.bind_some, bif_tru, L25]
  exact Ev.all fun _ => trivial
 have step11 : ∀ (lst A : List Int) (v5 : Int) (h8 h9 : List Int), lst.length ≤ 2000000000 → A.length ≤ 10 → (Ev fun k => Option.bind (F75 ((h9, [], ()), (A ++ (lst ++ [v5]), [], ()), ())) (fun (y : Bool × Unit) => T18_4 x.1.1 0 x.1.1 x.1.1 x.1 y.1 x x x.1 h8 [(x.1.1.length : Int)] k) = some (true, ())) → Ev fun k => T18_11 0 v5 true x lst A h8 h9 k = some (true, ()) := by
  intro lst A v5 h8 h9 hl hA h
  have hl2 := putL_len fI 1 (fun _ => rfl) lst
  refine put_loop (T := fun i A k => T18_11 (i : Int) v5 true x lst A h8 h9 k) fI lst 0 2147483648 (fun i A hi hA h => ?_) (by rw [hl2]; omega) ?_
  ·apply R18_11
   simp only [fI, List.length_cons, List.length_nil] at hA
   simp (disch := first | omega | (simp only [one_set, List.length_append, List.length_cons, List.length_nil, hB, hS, hT]; omega)) only [bif_t, bif_tt, bif_tru, wrap_succ]
   simp only [one_set, Int.toNat_natCast]
   exact h
  rw [show lst.flatMap fI = lst from put_id lst]
  apply R18_11
  simp (disch := first | omega | (simp only [one_set, List.length_append, List.length_cons, List.length_nil, hB, hS, hT]; omega)) only [bif_t, bif_f, bif_tru, wrap_succ]
  simp only [one_set, List.append_assoc]
  exact h
 have step10 : ∀ (lst W A : List Int), lst.length ≤ 2000000000 → (Ev fun k => Option.bind (F35 (x.1, ())) (fun (y : List Int × Int × Unit) => T18_11 0 y.2.1 true x y.1 [(y.1.length : Int)] W A k) = some (true, ())) → Ev fun k => T18_10 0 true x lst W A k = some (true, ()) := by
  intro lst W A hlb h
  refine wipe_loop (T := fun i l k => T18_10 (i : Int) true x l W A k) (-77) lst (fun i l hl0 hi h => ?_) (fun l hl => ?_)
  ·apply R18_10
   simp (disch := first | omega | (simp only [one_set, List.length_append, List.length_cons, List.length_nil, hB, hS, hT]; omega)) only [bif_t, bif_tt, wrap_succ]
   simp only [Int.toNat_natCast]
   exact h
  ·apply R18_10
   simp (disch := first | omega | (simp only [one_set, List.length_append, List.length_cons, List.length_nil, hB, hS, hT]; omega)) only [bif_f, wrap_succ]
   exact h
 have step9 : ∀ (lst A : List Int) (v5 : Int) (W : List Int), lst.length ≤ 2000000000 → A.length ≤ 10 → (Ev fun k => T18_10 0 true x lst W (A ++ (lst ++ [v5])) k = some (true, ())) → Ev fun k => T18_9 0 v5 true x lst W A k = some (true, ()) := by
  intro lst A v5 W hl hA h
  have hl2 := putL_len fI 1 (fun _ => rfl) lst
  refine put_loop (T := fun i A k => T18_9 (i : Int) v5 true x lst W A k) fI lst 0 2147483648 (fun i A hi hA h => ?_) (by rw [hl2]; omega) ?_
  ·apply R18_9
   simp only [fI, List.length_cons, List.length_nil] at hA
   simp (disch := first | omega | (simp only [one_set, List.length_append, List.length_cons, List.length_nil, hB, hS, hT]; omega)) only [bif_t, bif_tt, wrap_succ]
   simp only [one_set, Int.toNat_natCast]
   exact h
  rw [show lst.flatMap fI = lst from put_id lst]
  apply R18_9
  simp (disch := first | omega | (simp only [one_set, List.length_append, List.length_cons, List.length_nil, hB, hS, hT]; omega)) only [bif_t, bif_f, wrap_succ]
  simp only [one_set, List.append_assoc]
  exact h
 have l19 : F19 (s, ()) = some (chkP s) := L19 s
 have l21 : F21 (s, b, ()) = some (rateP s b) := L21 s b
 have l23 : F23 (s, a, c, ()) = some (sameP s a c) := L23 s a c
 have l26 : F26 (s, ()) = some (groupsP s) := L26 s
 have l28 : F28 (s, ()) = some (fewestP s) := L28 s
 have l31 : F31 (s, sn, day, ()) = some (whereP s sn day) := L31 s sn day
 have l33 : F33 (s, sn, day, ()) = some (hiddenP s sn day) := L33 s sn day
 have l35 : F35 (s, ()) = some (wrongP s) := L35 s
 have wrong : Ev fun k => T18_9 0 (wrongP s).2.1 true x (wrongP s).1 (wasP B off S T b a c sn day) [((wrongP s).1.length : Int)] k = some (true, ()) := by
  refine step9 _ _ _ _ hw (by simp) (step10 _ _ _ hw ?_)
  rw [x1, l35]
  simp only [Option.bind_some]
  refine step11 _ _ _ _ _ hw (by simp) ?_
  rw [L75 _ (by simp only [List.length_append, List.length_cons, List.length_nil]; omega), x1, e1]
  exact is
 have step7 : ∀ (lst A : List Int) (v5 : Int) (h7 W : List Int), lst.length ≤ 2000000000 → A.length ≤ 10 → (Ev fun k => Option.bind (F75 ((h7, [], ()), (A ++ (lst ++ [v5]), [], ()), ())) (fun (y : Bool × Unit) => bif y.1 then Option.bind (F31 (x.1, x.2.2.2.2.1, x.2.2.2.2.2.1, ())) fun (y : Sp × Int × Unit) => Option.bind (F31 (x.1, x.2.2.2.2.1, x.2.2.2.2.2.1, ())) fun (y_1 : Sp × Int × Unit) => Option.bind (F75 (([y.1.1, y.1.2.1, y.2.1], [], ()), ([y_1.1.1, y_1.1.2.1, y_1.2.1], [], ()), ())) fun (y : Bool × Unit) => bif y.1 then Option.bind (F33 (x.1, x.2.2.2.2.1, x.2.2.2.2.2.1, ())) fun (y : Int × Int × Unit) => Option.bind (F33 (x.1, x.2.2.2.2.1, x.2.2.2.2.2.1, ())) fun (y_2 : Int × Int × Unit) => Option.bind (F75 (([y.1, y.2.1], [], ()), ([y_2.1, y_2.2.1], [], ()), ())) fun (y : Bool × Unit) => bif y.1 then Option.bind (F35 (x.1, ())) fun (y : List Int × Int × Unit) => T18_9 0 y.2.1 true x y.1 W ([(↑(List.length y.1) : Int)]) k else T18_4 x.1.1 0 x.1.1 x.1.1 x.1 false x x x.1 W ([(↑(List.length x.1.1) : Int)]) k else T18_4 x.1.1 0 x.1.1 x.1.1 x.1 false x x x.1 W ([(↑(List.length x.1.1) : Int)]) k else T18_4 x.1.1 0 x.1.1 x.1.1 x.1 false x x x.1 W ([(↑(List.length x.1.1) : Int)]) k) = some (true, ())) → Ev fun k => T18_7 0 v5 true x lst h7 W A k = some (true, ()) := by
  intro lst A v5 h7 W hl hA h
  have hl2 := putL_len fI 1 (fun _ => rfl) lst
  refine put_loop (T := fun i A k => T18_7 (i : Int) v5 true x lst h7 W A k) fI lst 0 2147483648 (fun i A hi hA h => ?_) (by rw [hl2]; omega) ?_
  ·apply R18_7
   simp only [fI, List.length_cons, List.length_nil] at hA
   simp (disch := first | omega | (simp only [one_set, List.length_append, List.length_cons, List.length_nil, hB, hS, hT]; omega)) only [bif_t, bif_tt, bif_tru, wrap_succ]
   simp only [one_set, Int.toNat_natCast]
   exact h
  rw [show lst.flatMap fI = lst from put_id lst]
  apply R18_7
  simp (disch := first | omega | (simp only [one_set, List.length_append, List.length_cons, List.length_nil, hB, hS, hT]; omega)) only [bif_t, bif_f, bif_tru, wrap_succ]
  simp only [one_set, List.append_assoc, List.cons_append, List.nil_append]
  exact h
 have step5 : ∀ (lst A W : List Int), lst.length ≤ 2000000000 → (Ev fun k => Option.bind (F28 (x.1, ())) (fun (y : List Int × Int × Unit) => T18_7 0 y.2.1 true x y.1 A W [(y.1.length : Int)] k) = some (true, ())) → Ev fun k => T18_5 0 true x lst A W k = some (true, ()) := by
  intro lst A W hlb h
  refine wipe_loop (T := fun i l k => T18_5 (i : Int) true x l A W k) (-77) lst (fun i l hl0 hi h => ?_) (fun l hl => ?_)
  ·apply R18_5
   simp (disch := first | omega | (simp only [one_set, List.length_append, List.length_cons, List.length_nil, hB, hS, hT]; omega)) only [bif_t, bif_tt, wrap_succ]
   simp only [Int.toNat_natCast]
   exact h
  ·apply R18_5
   simp (disch := first | omega | (simp only [one_set, List.length_append, List.length_cons, List.length_nil, hB, hS, hT]; omega)) only [bif_f, wrap_succ]
   exact h
 have step3 : ∀ (lst A : List Int) (v5 : Int) (W : List Int), lst.length ≤ 2000000000 → A.length ≤ 10 → (Ev fun k => T18_5 0 true x lst (A ++ (lst ++ [v5])) W k = some (true, ())) → Ev fun k => T18_3 0 v5 true x lst A W k = some (true, ()) := by
  intro lst A v5 W hl hA h
  have hl2 := putL_len fI 1 (fun _ => rfl) lst
  refine put_loop (T := fun i A k => T18_3 (i : Int) v5 true x lst A W k) fI lst 0 2147483648 (fun i A hi hA h => ?_) (by rw [hl2]; omega) ?_
  ·apply R18_3
   simp only [fI, List.length_cons, List.length_nil] at hA
   simp (disch := first | omega | (simp only [one_set, List.length_append, List.length_cons, List.length_nil, hB, hS, hT]; omega)) only [bif_t, bif_tt, wrap_succ]
   simp only [one_set, Int.toNat_natCast]
   exact h
  rw [show lst.flatMap fI = lst from put_id lst]
  apply R18_3
  simp (disch := first | omega | (simp only [one_set, List.length_append, List.length_cons, List.length_nil, hB, hS, hT]; omega)) only [bif_t, bif_f, wrap_succ]
  simp only [one_set, List.append_assoc]
  exact h
 have fewest : Ev fun k => T18_3 0 (fewestP s).2.1 true x (fewestP s).1 [((fewestP s).1.length : Int)] (wasP B off S T b a c sn day) k = some (true, ()) := by
  refine step3 _ _ _ _ hf (by simp) (step5 _ _ _ hf ?_)
  rw [x1, l28]
  simp only [Option.bind_some]
  refine step7 _ _ _ _ _ hf (by simp) ?_
  rw [L75 _ (by simp only [List.length_append, List.length_cons, List.length_nil]; omega)]
  simp only [Option.bind_some, bif_tru, x1, x5, x6, l31, l33, l35, L75 _ (show List.length [_, _, _] ≤ 4294967296 by simp), L75 _ (show List.length [_, _] ≤ 4294967296 by simp)]
  exact wrong
 refine put_loop (T := fun i A k => T18_0 B (i : Int) B B s x x x s A k) fSp B (0, 0, ()) 2147483648 (fun i A hi hA h => ?_) (by rw [hB]; simp only [List.length_cons, List.length_nil]; omega) ?_
 ·apply R18_0
  simp only [fSp, List.length_cons, List.length_nil] at hA
  simp (disch := first | omega | (simp only [one_set, List.length_append, List.length_cons, List.length_nil, hB, hS, hT]; omega)) only [bif_t, bif_tt, wrap_succ]
  simp only [one_set, Int.toNat_natCast, List.append_assoc, List.cons_append, List.nil_append]
  exact h
 apply R18_0
 simp only [e2, e3]
 simp (disch := first | omega | (simp only [one_set, List.length_append, List.length_cons, List.length_nil, hB, hS, hT]; omega)) only [bif_t, bif_f, wrap_succ]
 simp only [one_set, List.append_assoc, List.cons_append, List.nil_append]
 refine put_loop (T := fun i A k => T18_1 S (i : Int) S S s x x x s A k) fSn S (0, 0, 0, ()) 2147483648 (fun i A hi hA h => ?_) (by rw [hS]; simp only [List.length_append, List.length_cons, List.length_nil, hB]; omega) ?_
 ·apply R18_1
  simp only [fSn, List.length_cons, List.length_nil] at hA
  simp (disch := first | omega | (simp only [one_set, List.length_append, List.length_cons, List.length_nil, hB, hS, hT]; omega)) only [bif_t, bif_tt, wrap_succ]
  simp only [one_set, Int.toNat_natCast, List.append_assoc, List.cons_append, List.nil_append]
  exact h
 apply R18_1
 simp only [e4]
 simp (disch := first | omega | (simp only [one_set, List.length_append, List.length_cons, List.length_nil, hB, hS, hT]; omega)) only [bif_t, bif_f, wrap_succ]
 simp only [one_set, List.append_assoc, List.cons_append, List.nil_append]
 refine put_loop (T := fun i A k => T18_2 T (i : Int) T T s x x x A k) fTl T (0, 0, false, ()) 2147483648 (fun i A hi hA h => ?_) (by rw [hT]; simp only [List.length_append, List.length_cons, List.length_nil, hB, hS]; omega) ?_
 ·apply R18_2
  simp only [fTl, List.length_cons, List.length_nil] at hA h
  simp only [Int.toNat_natCast]
  cases hb : (T.getD i (0, 0, false, ())).2.2.1 with
  | true =>
   rw [hb] at h
   simp (disch := first | omega | (simp only [one_set, List.length_append, List.length_cons, List.length_nil, hB, hS, hT]; omega)) only [bif_t, bif_tt, bif_tru, wrap_succ]
   simp only [one_set, rep0, List.append_assoc, List.cons_append, List.nil_append]
   exact h
  | false =>
   rw [hb] at h
   simp (disch := first | omega | (simp only [one_set, List.length_append, List.length_cons, List.length_nil, hB, hS, hT]; omega)) only [bif_t, bif_tt, bif_fls, wrap_succ]
   simp only [one_set, rep0, List.append_assoc, List.cons_append, List.nil_append]
   exact h
 apply R18_2
 simp only [x2, x3, x4, x5, x6]
 simp (disch := first | omega | (simp only [one_set, List.length_append, List.length_cons, List.length_nil, hB, hS, hT]; omega)) only [bif_t, bif_f, wrap_succ]
 simp only [one_set, List.append_assoc, List.cons_append, List.nil_append]
 simp only [Option.bind_some, bif_tru, x1, l19, l21, l23, l26, l28, L75 _ (show List.length [_, _, _] ≤ 4294967296 by simp), L75 _ (show List.length [_, _] ≤ 4294967296 by simp)]
 exact fewest
end Go.Proofs.Ytkhhbpocmmmnmaa
/- The context for TopAnewTurning is the program's. Conditions: none. -/
namespace Go.Proofs.Ytkhhbpocmmmnmaa
open Go Go.Gh Go.Proofs
theorem ok75 : CtxOK' cx75 := CtxOK'.add ok41 (f := 75) (c := C75) (ghost_ok ok41 S75 6000 75 _ _) (fn_is (List.mem_range.2 (by decide)) (by kernel_rfl))
theorem fok28 : FConOK cx28s134 28 C28 := ghostF_ok ok28s134 memo_plain S28 6000 28 _ _ (by kernel_rfl) (by kernel_rfl)
theorem fok35 : FConOK cx33 35 C35 := ghostF_ok ok33 memo_plain S35 6000 35 _ _ (by kernel_rfl) (by kernel_rfl)
theorem okT : CtxOK' cxT := CtxOK'.setTwin (CtxOK'.addF (CtxOK'.addF ok75 (f := 28) (c := C28) fok28 (fn_is (List.mem_range.2 (by decide)) (by kernel_rfl))) (f := 35) (c := C35) fok35 (fn_is (List.mem_range.2 (by decide)) (by kernel_rfl))) _
end Go.Proofs.Ytkhhbpocmmmnmaa
