/- The states at the cuts of the reference (b). Conditions: none (abbreviations). -/
import Derived.Test.YtkbephbhajplhaaDoorCyR
import Derived.Test.YtkbephbhajplhaaDoorGhI
import Derived.Test.YtkbephbhajplhaaDoorCyN
namespace Go.Proofs.YtkbephbhajplhaaDoor
open Go Go.Gh Go.Proofs
noncomputable abbrev T44_0 (t0 : (List Int)) (t1 : Int) (t5 : Int) (f : Nat) : Option (denL [.bool]) := iter cx22 S44 [.bool] 6000 f 0 K44_0 (((t0, (t1, (t5, ()))), ()), ())
theorem U44_0 (t0 : (List Int)) (t1 : Int) (t5 : Int) {y : denL [.bool]} (h : Ev fun k => seg cx22 S44 [.bool] 6000 some (iter cx22 S44 [.bool] 6000 k) 0 K44_0 (((t0, (t1, (t5, ()))), ()), ()) = some y) : Ev fun k => T44_0 t0 t1 t5 k = some y := iter_ev h
end Go.Proofs.YtkbephbhajplhaaDoor
/- The equations at the cuts of the reference, with the states' names (b). Conditions: none. (Printed by rest.py.) -/
namespace Go.Proofs.YtkbephbhajplhaaDoor
open Go Go.Gh Go.Proofs
theorem R44_0 (t0 : (List Int)) (t1 : Int) (t5 : Int) {y : denL [.bool]} (h : Ev fun k =>
  (bif decide (t5 < (↑(List.length t0) : Int)) then bif decide (0 ≤ t5) && decide (t5 < (↑(List.length t0) : Int)) then bif List.getD t0 (Int.toNat t5) 0 == t1 then some (true, ()) else T44_0 t0 t1 (IntKind.wrap IntKind.i64 (t5 + 1)) k else none else some (false, ()) : Option (denL [.bool])) = some y) : Ev fun k => T44_0 t0 t1 t5 k = some y := U44_0 _ _ _ (Ev.eq (fun _ => Q44_0 _ _ _ _) h)
theorem N44 (t0 : (List Int)) (t1 : Int) {y : denL [.bool]} (h : Ev fun k =>
  (T44_0 t0 t1 0 k : Option (denL [.bool])) = some y) : F44 (t0, (t1, ())) = some y := ghost_eq (Ev.eq (fun _ => E44 _ _ _) h)
end Go.Proofs.YtkbephbhajplhaaDoor
/- The reference's 'Turns', 'Gaps' and 'Next' are the program's. Conditions: as each lemma states. -/
namespace Go.Proofs.YtkbephbhajplhaaDoor
open Go Go.Gh Go.Proofs
theorem L44 (l : List Int) (x : Int) (hl : l.length < 1000000) : F44 ((l, x, ()) : List Int × Int × Unit) = some (decide (x ∈ l), ()) := by
  refine N44 _ _ ?_
  have key : ∀ (c i : Nat), i + c = l.length → Ev fun k => T44_0 l x i k = some (decide (x ∈ l.drop i), ()) := by
    intro c
    induction c with
    | zero =>
      intro i hi
      refine R44_0 _ _ _ ?_
      rw [dec_f (by omega), List.drop_eq_nil_of_le (by omega)]
      exact Ev.all fun _ => rfl
    | succ c ih =>
      intro i hi
      have hlt : i < l.length := by omega
      refine R44_0 _ _ _ ?_
      rw [dec_t (show (i : Int) < (l.length : Int) by omega), dec_t (show (0 : Int) ≤ (i : Int) by omega), Int.toNat_natCast, getD_lt hlt, wrap_succ (n := i) (by omega), List.drop_eq_getElem_cons hlt]
      simp only [Bool.and_self, cond_true]
      by_cases he : l[i] = x
      · rw [show (l[i] == x) = true from beq_iff_eq.2 he, dec_t (by rw [he]; simp)]
        exact Ev.all fun _ => rfl
      · have : decide (x ∈ l[i] :: l.drop (i + 1)) = decide (x ∈ l.drop (i + 1)) := by
          rw [Bool.eq_iff_iff, decide_eq_true_eq, decide_eq_true_eq, List.mem_cons]
          exact ⟨fun h => h.resolve_left fun h => he h.symm, .inr⟩
        rw [show (l[i] == x) = false from beq_eq_false_iff_ne.2 he, this]
        exact ih (i + 1) (by omega)
  have := key l.length 0 (by omega)
  rw [List.drop_zero] at this
  exact this
end Go.Proofs.YtkbephbhajplhaaDoor
/- The states at the cuts of the reference (c). Conditions: none (abbreviations). -/
namespace Go.Proofs.YtkbephbhajplhaaDoor
open Go Go.Gh Go.Proofs
noncomputable abbrev T54_0 (t1 : (List Int)) (t6 : Int) (h0 : Se) (h1 : Se) (h2 : (List Sm)) (f : Nat) : Option (denL [tSe]) := iter cx31 S54 [tSe] 6000 f 0 K54_0 (((t1, ((), ((), ((), (t6, ()))))), ()), (h0, (h1, (h2, ()))))
theorem U54_0 (t1 : (List Int)) (t6 : Int) (h0 : Se) (h1 : Se) (h2 : (List Sm)) {y : denL [tSe]} (h : Ev fun k => seg cx31 S54 [tSe] 6000 some (iter cx31 S54 [tSe] 6000 k) 0 K54_0 (((t1, ((), ((), ((), (t6, ()))))), ()), (h0, (h1, (h2, ())))) = some y) : Ev fun k => T54_0 t1 t6 h0 h1 h2 k = some y := iter_ev h
noncomputable abbrev T108_0 (t0 : Int) (t1 : Int) (t5 : (List (List Int))) (t6 : Int) (f : Nat) : Option (denL [(.slice (.slice (.int .i64)))]) := iter cx54 S108 [(.slice (.slice (.int .i64)))] 6000 f 0 K108_0 (((t0, (t1, (t5, (t6, ())))), ()), ())
theorem U108_0 (t0 : Int) (t1 : Int) (t5 : (List (List Int))) (t6 : Int) {y : denL [(.slice (.slice (.int .i64)))]} (h : Ev fun k => seg cx54 S108 [(.slice (.slice (.int .i64)))] 6000 some (iter cx54 S108 [(.slice (.slice (.int .i64)))] 6000 k) 0 K108_0 (((t0, (t1, (t5, (t6, ())))), ()), ()) = some y) : Ev fun k => T108_0 t0 t1 t5 t6 k = some y := iter_ev h
noncomputable abbrev T108_1 (t0 : Int) (t1 : Int) (t5 : (List (List Int))) (t6 : Int) (t8 : Int) (h0 : (List (List Int))) (f : Nat) : Option (denL [(.slice (.slice (.int .i64)))]) := iter cx54 S108 [(.slice (.slice (.int .i64)))] 6000 f 1 K108_1 (((t0, (t1, (t5, (t6, ((), (t8, ())))))), ()), (h0, ()))
theorem U108_1 (t0 : Int) (t1 : Int) (t5 : (List (List Int))) (t6 : Int) (t8 : Int) (h0 : (List (List Int))) {y : denL [(.slice (.slice (.int .i64)))]} (h : Ev fun k => seg cx54 S108 [(.slice (.slice (.int .i64)))] 6000 some (iter cx54 S108 [(.slice (.slice (.int .i64)))] 6000 k) 1 K108_1 (((t0, (t1, (t5, (t6, ((), (t8, ())))))), ()), (h0, ())) = some y) : Ev fun k => T108_1 t0 t1 t5 t6 t8 h0 k = some y := iter_ev h
noncomputable abbrev T108_2 (t0 : Int) (t1 : Int) (t5 : (List (List Int))) (t6 : Int) (t8 : Int) (t10 : Int) (h0 : (List (List Int))) (f : Nat) : Option (denL [(.slice (.slice (.int .i64)))]) := iter cx54 S108 [(.slice (.slice (.int .i64)))] 6000 f 2 K108_2 (((t0, (t1, (t5, (t6, ((), (t8, (t10, ()))))))), ()), (h0, ()))
theorem U108_2 (t0 : Int) (t1 : Int) (t5 : (List (List Int))) (t6 : Int) (t8 : Int) (t10 : Int) (h0 : (List (List Int))) {y : denL [(.slice (.slice (.int .i64)))]} (h : Ev fun k => seg cx54 S108 [(.slice (.slice (.int .i64)))] 6000 some (iter cx54 S108 [(.slice (.slice (.int .i64)))] 6000 k) 2 K108_2 (((t0, (t1, (t5, (t6, ((), (t8, (t10, ()))))))), ()), (h0, ())) = some y) : Ev fun k => T108_2 t0 t1 t5 t6 t8 t10 h0 k = some y := iter_ev h
noncomputable abbrev T34_0 (t7 : Int) (h0 : Se) (f : Nat) : Option (denL [(.slice (.int .i64)), (.int .i64)]) := iter cx108 S34 [(.slice (.int .i64)), (.int .i64)] 6000 f 0 K34_0 ((((), (t7, ())), ()), (h0, ()))
theorem U34_0 (t7 : Int) (h0 : Se) {y : denL [(.slice (.int .i64)), (.int .i64)]} (h : Ev fun k => seg cx108 S34 [(.slice (.int .i64)), (.int .i64)] 6000 some (iter cx108 S34 [(.slice (.int .i64)), (.int .i64)] 6000 k) 0 K34_0 ((((), (t7, ())), ()), (h0, ())) = some y) : Ev fun k => T34_0 t7 h0 k = some y := iter_ev h
noncomputable abbrev T34_1 (t7 : Int) (t8 : (List (List Int))) (t9 : Int) (h0 : Se) (f : Nat) : Option (denL [(.slice (.int .i64)), (.int .i64)]) := iter cx108 S34 [(.slice (.int .i64)), (.int .i64)] 6000 f 1 K34_1 ((((), (t7, (t8, (t9, ())))), ()), (h0, ()))
theorem U34_1 (t7 : Int) (t8 : (List (List Int))) (t9 : Int) (h0 : Se) {y : denL [(.slice (.int .i64)), (.int .i64)]} (h : Ev fun k => seg cx108 S34 [(.slice (.int .i64)), (.int .i64)] 6000 some (iter cx108 S34 [(.slice (.int .i64)), (.int .i64)] 6000 k) 1 K34_1 ((((), (t7, (t8, (t9, ())))), ()), (h0, ())) = some y) : Ev fun k => T34_1 t7 t8 t9 h0 k = some y := iter_ev h
end Go.Proofs.YtkbephbhajplhaaDoor
/- The equations at the cuts of the reference, with the states' names (c). Conditions: none. (Printed by rest.py.) -/
namespace Go.Proofs.YtkbephbhajplhaaDoor
open Go Go.Gh Go.Proofs
theorem R54_0 (t1 : (List Int)) (t6 : Int) (h0 : Se) (h1 : Se) (h2 : (List Sm)) {y : denL [tSe]} (h : Ev fun k =>
  (bif decide (t6 < (↑(List.length (Prod.fst (Prod.snd h0))) : Int)) then
  Option.bind (F44 (t1, t6, ())) fun (y : Bool × Unit) =>
    bif !Prod.fst y then
      bif decide (0 ≤ t6) && decide (t6 < (↑(List.length (Prod.fst (Prod.snd h0))) : Int)) then
        bif decide (List.length h2 + List.length (List.set (List.replicate 1 (0, 0, (0, 0, ()), ())) 0 (List.getD (Prod.fst (Prod.snd h0)) (Int.toNat t6) (0, 0, (0, 0, ()), ()))) ≤ 2147483648) then
          T54_0 t1 (IntKind.wrap IntKind.i64 (t6 + 1)) h0 h1 (h2 ++ List.set (List.replicate 1 (0, 0, (0, 0, ()), ())) 0 (List.getD (Prod.fst (Prod.snd h0)) (Int.toNat t6) (0, 0, (0, 0, ()), ()))) k
        else none
      else none
    else T54_0 t1 (IntKind.wrap IntKind.i64 (t6 + 1)) h0 h1 h2 k
  else some ((Prod.fst h0, h2, Prod.fst (Prod.snd (Prod.snd h0)), ()), ()) : Option (denL [tSe])) = some y) : Ev fun k => T54_0 t1 t6 h0 h1 h2 k = some y := U54_0 _ _ _ _ _ (Ev.eq (fun _ => Q54_0 _ _ _ _ _ _) h)
theorem N54 (t0 : Se) (t1 : (List Int)) {y : denL [tSe]} (h : Ev fun k =>
  (T54_0 t1 0 t0 ([], [], (0, 0, ()), ()) ([]) k : Option (denL [tSe])) = some y) : F54 (t0, (t1, ())) = some y := ghost_eq (Ev.eq (fun _ => E54 _ _ _) h)
theorem R108_0 (t0 : Int) (t1 : Int) (t5 : (List (List Int))) (t6 : Int) {y : denL [(.slice (.slice (.int .i64)))]} (h : Ev fun k =>
  (bif decide (t6 < t1) then T108_1 t0 t1 t5 t6 0 ([]) k else some (t5, ()) : Option (denL [(.slice (.slice (.int .i64)))])) = some y) : Ev fun k => T108_0 t0 t1 t5 t6 k = some y := U108_0 _ _ _ _ (Ev.eq (fun _ => Q108_0 _ _ _ _ _) h)
theorem R108_1 (t0 : Int) (t1 : Int) (t5 : (List (List Int))) (t6 : Int) (t8 : Int) (h0 : (List (List Int))) {y : denL [(.slice (.slice (.int .i64)))]} (h : Ev fun k =>
  (bif decide (t8 < (↑(List.length t5) : Int)) then
  bif decide (t6 > 0) then
    bif decide (0 ≤ t8) && decide (t8 < (↑(List.length t5) : Int)) then
      bif decide (0 ≤ IntKind.wrap IntKind.i64 (t6 - 1)) && decide (IntKind.wrap IntKind.i64 (t6 - 1) < (↑(List.length (List.getD t5 (Int.toNat t8) [])) : Int)) then T108_2 t0 t1 t5 t6 t8 (IntKind.wrap IntKind.i64 (List.getD (List.getD t5 (Int.toNat t8) []) (Int.toNat (IntKind.wrap IntKind.i64 (t6 - 1))) 0 + 1)) h0 k else none
    else none
  else T108_2 t0 t1 t5 t6 t8 0 h0 k
  else T108_0 t0 t1 h0 (IntKind.wrap IntKind.i64 (t6 + 1)) k : Option (denL [(.slice (.slice (.int .i64)))])) = some y) : Ev fun k => T108_1 t0 t1 t5 t6 t8 h0 k = some y := U108_1 _ _ _ _ _ _ (Ev.eq (fun _ => Q108_1 _ _ _ _ _ _ _) h)
theorem R108_2 (t0 : Int) (t1 : Int) (t5 : (List (List Int))) (t6 : Int) (t8 : Int) (t10 : Int) (h0 : (List (List Int))) {y : denL [(.slice (.slice (.int .i64)))]} (h : Ev fun k =>
  (bif decide (t10 < t0) then
  bif decide (0 ≤ t8) && decide (t8 < (↑(List.length t5) : Int)) then
    bif decide (List.length (List.getD t5 (Int.toNat t8) []) ≤ 2147483648) then
      bif decide (List.length (List.getD t5 (Int.toNat t8) []) + List.length (List.set (List.replicate 1 0) 0 t10) ≤ 2147483648) then
        bif decide (List.length h0 + List.length (List.set (List.replicate 1 []) 0 (List.getD t5 (Int.toNat t8) [] ++ List.set (List.replicate 1 0) 0 t10)) ≤ 2147483648) then T108_2 t0 t1 t5 t6 t8 (IntKind.wrap IntKind.i64 (t10 + 1)) (h0 ++ List.set (List.replicate 1 []) 0 (List.getD t5 (Int.toNat t8) [] ++ List.set (List.replicate 1 0) 0 t10)) k else none
      else none
    else none
  else none
  else T108_1 t0 t1 t5 t6 (IntKind.wrap IntKind.i64 (t8 + 1)) h0 k : Option (denL [(.slice (.slice (.int .i64)))])) = some y) : Ev fun k => T108_2 t0 t1 t5 t6 t8 t10 h0 k = some y := U108_2 _ _ _ _ _ _ _ (Ev.eq (fun _ => Q108_2 _ _ _ _ _ _ _ _) h)
theorem N108 (t0 : Int) (t1 : Int) {y : denL [(.slice (.slice (.int .i64)))]} (h : Ev fun k =>
  (T108_0 t0 t1 ([] :: List.replicate 0 []) 0 k : Option (denL [(.slice (.slice (.int .i64)))])) = some y) : F108 (t0, (t1, ())) = some y := ghost_eq (Ev.eq (fun _ => E108 _ _ _) h)
theorem R34_0 (t7 : Int) (h0 : Se) {y : denL [(.slice (.int .i64)), (.int .i64)]} (h : Ev fun k =>
  (bif decide (t7 ≤ (↑(List.length (Prod.fst (Prod.snd h0))) : Int)) then Option.bind (F108 ((↑(List.length (Prod.fst (Prod.snd h0))) : Int), t7, ())) fun (y : List (List Int) × Unit) => T34_1 t7 (Prod.fst y) 0 h0 k else some ([], 9, ()) : Option (denL [(.slice (.int .i64)), (.int .i64)])) = some y) : Ev fun k => T34_0 t7 h0 k = some y := U34_0 _ _ (Ev.eq (fun _ => Q34_0 _ _ _) h)
theorem R34_1 (t7 : Int) (t8 : (List (List Int))) (t9 : Int) (h0 : Se) {y : denL [(.slice (.int .i64)), (.int .i64)]} (h : Ev fun k =>
  (bif decide (t9 < (↑(List.length t8) : Int)) then
  bif decide (0 ≤ t9) && decide (t9 < (↑(List.length t8) : Int)) then
    Option.bind (F54 (h0, List.getD t8 (Int.toNat t9) [], ())) fun (y : Se × Unit) =>
      Option.bind (F52 (Prod.fst y, ())) fun (y : List (List Int) × Unit) => bif decide ((↑(List.length (Prod.fst y)) : Int) > 0) then bif decide (0 ≤ t9) && decide (t9 < (↑(List.length t8) : Int)) then some (List.getD t8 (Int.toNat t9) [], 0, ()) else none else T34_1 t7 t8 (IntKind.wrap IntKind.i64 (t9 + 1)) h0 k
  else none
  else T34_0 (IntKind.wrap IntKind.i64 (t7 + 1)) h0 k : Option (denL [(.slice (.int .i64)), (.int .i64)])) = some y) : Ev fun k => T34_1 t7 t8 t9 h0 k = some y := U34_1 _ _ _ _ (Ev.eq (fun _ => Q34_1 _ _ _ _ _) h)
theorem N34 (t0 : Se) {y : denL [(.slice (.int .i64)), (.int .i64)]} (h : Ev fun k =>
  (Option.bind (F18 (t0, ())) fun (y : Int × Int × Int × Unit) => bif Prod.fst (Prod.snd (Prod.snd y)) != 0 then some ([], Prod.fst (Prod.snd (Prod.snd y)), ()) else T34_0 0 t0 k : Option (denL [(.slice (.int .i64)), (.int .i64)])) = some y) : F34 (t0, ()) = some y := ghost_eq (Ev.eq (fun _ => E34 _ _) h)
end Go.Proofs.YtkbephbhajplhaaDoor
/- The reference's 'Wrong' is the program's. Conditions: as each lemma states. -/
namespace Go.Proofs.YtkbephbhajplhaaDoor
open Go Go.Gh Go.Proofs
open Go.Few
theorem choose2 (b m : Nat) (out : List (List Int)) (ho : out.length ≤ 16777216) (i k : Nat) (hb : b ≤ 8) (hk : k < out.length) (hl : (out.getD k []).length ≤ 8) (y : denL [(.slice (.slice (.int .i64)))]) : ∀ (e : Nat) (n : Int), n + e = b → 0 ≤ n → ∀ acc : List (List Int), (acc ++ (upto n b).map fun n => out.getD k [] ++ [n]).length ≤ 16777216 →
    (Ev fun f => T108_1 b m out i ((k + 1 : Nat) : Int) (acc ++ (upto n b).map fun n => out.getD k [] ++ [n]) f = some y) → Ev fun f => T108_2 b m out i k n acc f = some y := by
  intro e
  induction e with
  | zero =>
    intro n hn h0 acc hc h
    refine R108_2 _ _ _ _ _ _ _ ?_
    rw [upto_nil (by omega), List.map_nil, List.append_nil] at h
    rw [dec_f (by omega), wrap_succ (n := k) (by omega)]
    exact h
  | succ e ih =>
    intro n hn h0 acc hc h
    refine R108_2 _ _ _ _ _ _ _ ?_
    rw [upto_cons (by omega), List.map_cons] at h hc
    have hc' := hc
    rw [List.length_append, List.length_cons] at hc'
    rw [wrap_id (x := n + 1) (by omega) (by omega), one_set, one_set, Int.toNat_natCast, dec_t (show n < (b : Int) by omega), dec_t (show (0 : Int) ≤ (k : Int) by omega), dec_t (show (k : Int) < (out.length : Int) by omega), dec_t (show (out.getD k []).length ≤ 2147483648 by omega), dec_t (show (out.getD k []).length + [n].length ≤ 2147483648 by simp only [List.length_cons, List.length_nil]; omega), dec_t (show acc.length + [out.getD k [] ++ [n]].length ≤ 2147483648 by simp only [List.length_cons, List.length_nil]; omega)]
    have e1 : ∀ r : List (List Int), acc ++ (out.getD k [] ++ [n]) :: r = (acc ++ [out.getD k [] ++ [n]]) ++ r := fun r => by simp
    rw [e1] at h hc
    exact ih (n + 1) (by omega) (by omega) _ hc h
theorem choose1 (b m : Nat) (hb : b ≤ 8) (i : Nat) (hi8 : i ≤ 7) (y : denL [(.slice (.slice (.int .i64)))]) (h : Ev fun f => T108_0 b m (chooseL b (i + 1)) ((i + 1 : Nat) : Int) f = some y) : ∀ (e k : Nat), k + e = (chooseL b i).length → ∀ acc : List (List Int), acc ++ ((chooseL b i).drop k).flatMap (fun o => (upto (Few.firstOf i o) b).map fun n => o ++ [n]) = chooseL b (i + 1) →
    Ev fun f => T108_1 b m (chooseL b i) i k acc f = some y := by
  have hcap := chooseL_cap hb (show i ≤ 8 by omega)
  have hcap' := chooseL_cap hb (show i + 1 ≤ 8 by omega)
  intro e
  induction e with
  | zero =>
    intro k hk acc ha
    refine R108_1 _ _ _ _ _ _ ?_
    rw [List.drop_eq_nil_of_le (by omega), List.flatMap_nil, List.append_nil] at ha
    rw [dec_f (by omega), wrap_succ (n := i) (by omega), ha]
    exact h
  | succ e ih =>
    intro k hk acc ha
    refine R108_1 _ _ _ _ _ _ ?_
    have hlt : k < (chooseL b i).length := by omega
    have hr := mem_chooseL.1 (List.getElem_mem hlt)
    have hg : (chooseL b i).getD k [] = (chooseL b i)[k] := getD_lt hlt
    have hf0 := firstOf_ge hr
    have hf1 := firstOf_le (by omega) hr
    rw [List.drop_eq_getElem_cons hlt, List.flatMap_cons, ← List.append_assoc] at ha
    have hle : (acc ++ (upto (Few.firstOf i (chooseL b i)[k]) b).map fun n => (chooseL b i)[k] ++ [n]).length ≤ 16777216 := by
      have := congrArg List.length ha
      rw [List.length_append] at this
      omega
    have nxt := choose2 b m (chooseL b i) hcap i k hb hlt (by rw [hg, hr.len]; omega) y ((b : Int) - Few.firstOf i (chooseL b i)[k]).toNat (Few.firstOf i (chooseL b i)[k]) (by omega) hf0 acc (by rw [hg]; exact hle) (by rw [hg]; exact ih (k + 1) (by omega) _ ha)
    rw [dec_t (show (k : Int) < ((chooseL b i).length : Int) by omega)]
    simp only [cond_true]
    cases i with
    | zero =>
      rw [dec_f (show ¬ (((0 : Nat) : Int) > 0) by omega)]
      exact nxt
    | succ i =>
      have w1 : IntKind.wrap IntKind.i64 (((i + 1 : Nat) : Int) - 1) = (i : Int) := by rw [wrap_id (by omega) (by omega)]; omega
      have hlen := hr.len
      have hi := hr.in_ _ (List.getElem_mem (show i < ((chooseL b (i + 1))[k]).length by omega))
      have hg2 : ((chooseL b (i + 1))[k]).getD i 0 = ((chooseL b (i + 1))[k])[i]'(by omega) := getD_lt (by omega)
      have w2 : IntKind.wrap IntKind.i64 (((chooseL b (i + 1))[k]).getD i 0 + 1) = Few.firstOf (i + 1) (chooseL b (i + 1))[k] := by
        rw [hg2, wrap_id (by omega) (by omega), Few.firstOf, if_pos (by omega), Nat.add_sub_cancel, hg2]
      rw [dec_t (show (((i + 1 : Nat) : Int) > 0) by omega), w1, Int.toNat_natCast, Int.toNat_natCast, hg, w2, dec_t (show (0 : Int) ≤ (k : Int) by omega), dec_t (show (0 : Int) ≤ (i : Int) by omega), dec_t (show (i : Int) < (((chooseL b (i + 1))[k]).length : Int) by omega)]
      exact nxt
theorem L108 (b m : Nat) (hb : b ≤ 8) (hm : m ≤ 8) : F108 (((b : Int), (m : Int), ()) : Int × Int × Unit) = some (chooseL b m, ()) := by
  refine N108 _ _ ?_
  have key : ∀ (e i : Nat), i + e = m → Ev fun f => T108_0 b m (chooseL b i) i f = some (chooseL b m, ()) := by
    intro e
    induction e with
    | zero =>
      intro i hi
      obtain rfl : i = m := by omega
      refine R108_0 _ _ _ _ ?_
      rw [dec_f (by omega)]
      exact Ev.all fun _ => by first | rfl | trivial
    | succ e ih =>
      intro i hi
      refine R108_0 _ _ _ _ ?_
      rw [dec_t (show (i : Int) < (m : Int) by omega)]
      exact choose1 b m hb i (by omega) _ (ih (i + 1) (by omega)) (chooseL b i).length 0 (by omega) [] (by rw [List.drop_zero, List.nil_append]; rfl)
  exact key m 0 (by omega)
def butS (s : Se) (l : List Int) (i : Nat) : List Sm := ((List.range i).filter fun k : Nat => !decide ((k : Int) ∈ l)).map fun k => s.2.1.getD k sm0
def butSe (s : Se) (l : List Int) : Se := (s.1, butS s l s.2.1.length, s.2.2.1, ())
theorem butS_succ (s : Se) (l : List Int) (i : Nat) : butS s l (i + 1) = if (!decide ((i : Int) ∈ l)) = true then butS s l i ++ [s.2.1.getD i sm0] else butS s l i := by
  unfold butS
  rw [List.range_succ, List.filter_append, List.map_append]
  simp only [List.filter_cons, List.filter_nil]
  split <;> simp
theorem L54 (s : Se) (l : List Int) (hl : l.length < 1000000) (h4 : s.2.1.length ≤ 4) : F54 ((s, l, ()) : Se × List Int × Unit) = some (butSe s l, ()) := by
  refine N54 _ _ ?_
  have key : ∀ (c i : Nat), i + c = s.2.1.length → Ev fun k => T54_0 l i s ([], [], (0, 0, ()), ()) (butS s l i) k = some (butSe s l, ()) := by
    intro c
    induction c with
    | zero =>
      intro i hi
      obtain rfl : i = s.2.1.length := by omega
      refine R54_0 _ _ _ _ _ ?_
      rw [dec_f (by omega)]
      exact Ev.all fun _ => rfl
    | succ c ih =>
      intro i hi
      have ih := ih (i + 1) (by omega)
      have hlen : (butS s l i).length ≤ 4 := by
        unfold butS
        rw [List.length_map]
        refine Nat.le_trans (List.length_filter_le _ _) ?_
        rw [List.length_range]; omega
      refine R54_0 _ _ _ _ _ ?_
      rw [dec_t (show (i : Int) < (s.2.1.length : Int) by omega), L44 l i hl, dec_t (show (0 : Int) ≤ (i : Int) by omega), Int.toNat_natCast, one_set, wrap_succ (n := i) (by omega), show s.2.1.getD i (0, 0, (0, 0, ()), ()) = s.2.1.getD i sm0 from rfl, dec_t (show (butS s l i).length + [s.2.1.getD i sm0].length ≤ 2147483648 by simp only [List.length_cons, List.length_nil]; omega)]
      simp only [Bool.and_self, cond_true, Option.bind_some]
      rw [butS_succ] at ih
      cases hd : decide ((i : Int) ∈ l) with
      | true =>
        rw [hd, if_neg (by simp)] at ih
        exact ih
      | false =>
        rw [hd, if_pos (show (!false) = true from rfl)] at ih
        exact ih
  exact key s.2.1.length 0 (by omega)
theorem butS_mem {s : Se} {l : List Int} {c : Sm} (h : c ∈ butS s l s.2.1.length) : ∃ k, k < s.2.1.length ∧ s.2.1.getD k sm0 = c := by
  unfold butS at h
  rw [List.mem_map] at h
  obtain ⟨k, hk, rfl⟩ := h
  exact ⟨k, List.mem_range.1 (List.mem_filter.1 hk).1, rfl⟩
theorem but_vs {s : Se} (hs : VS s) (l : List Int) : VS (butSe s l) := by
  refine ⟨hs.lo, hs.hi, hs.years, ?_, fun k hk => ?_, hs.gap⟩
  · show (butS s l s.2.1.length).length ≤ 4
    unfold butS
    rw [List.length_map]
    refine Nat.le_trans (List.length_filter_le _ _) ?_
    rw [List.length_range]; exact hs.many
  · have hk : k < (butS s l s.2.1.length).length := hk
    have hm : (butS s l s.2.1.length)[k] ∈ butS s l s.2.1.length := List.getElem_mem hk
    obtain ⟨j, hj, e⟩ := butS_mem hm
    have := hs.sums j hj
    rw [show (butSe s l).2.1.getD k sm0 = s.2.1.getD j sm0 from (getD_lt hk).trans e.symm]
    exact this
theorem but_all (s : Se) (l : List Int) : ∀ i, allB (butSe s l) i = allB s i
  | 0 => rfl
  | i + 1 => by
    simp only [allB, but_all s l i]
    rfl
theorem but_ok (s : Se) (l : List Int) (hl : ∀ x ∈ l, 0 ≤ x) (q : List Int) : okAll (butSe s l) 0 q = okAll s (Few.bitsL l) q := by
  unfold okAll
  congr 1
  rw [Bool.eq_iff_iff, List.all_eq_true, List.all_eq_true]
  have key : ∀ c : Sm, (inGap c.2.2.1 (sumL q c.1.toNat c.2.1.toNat) = true) = (inGap c.2.2.1 (sumL q c.1.toNat c.2.1.toNat) = true) := fun _ => rfl
  constructor
  · intro h k hk
    unfold okSumR
    cases hb : (Few.bitsL l).testBit k with
    | true => rfl
    | false =>
      have hn : ¬ (k : Int) ∈ l := fun hm => by
        have := (Few.bitsL_bit hl k).2 hm
        rw [hb] at this; cases this
      have hm : s.2.1.getD k sm0 ∈ butS s l s.2.1.length := by
        unfold butS
        rw [List.mem_map]
        exact ⟨k, List.mem_filter.2 ⟨hk, by simp [hn]⟩, rfl⟩
      obtain ⟨j, hj, e⟩ := List.mem_iff_getElem.1 hm
      have h2 := h j (List.mem_range.2 hj)
      unfold okSumR at h2
      rw [Nat.zero_testBit, Bool.false_or, show (butSe s l).2.1.getD j sm0 = s.2.1.getD k sm0 from (getD_lt hj).trans e] at h2
      rw [Bool.false_or]
      exact h2
  · intro h j hj
    have hj : j < (butS s l s.2.1.length).length := List.mem_range.1 hj
    unfold okSumR
    rw [Nat.zero_testBit, Bool.false_or, show (butSe s l).2.1.getD j sm0 = (butS s l s.2.1.length)[j] from getD_lt hj]
    have hm : (butS s l s.2.1.length)[j] ∈ butS s l s.2.1.length := List.getElem_mem hj
    generalize (butS s l s.2.1.length)[j] = c at hm
    unfold butS at hm
    rw [List.mem_map] at hm
    obtain ⟨k, hk, rfl⟩ := hm
    obtain ⟨h1, h2⟩ := List.mem_filter.1 hk
    have h3 := h k h1
    unfold okSumR at h3
    have hb : (Few.bitsL l).testBit k = false := by
      cases hb : (Few.bitsL l).testBit k with
      | false => rfl
      | true =>
        have := (Few.bitsL_bit hl k).1 hb
        rw [dec_t this] at h2; cases h2
    rw [hb, Bool.false_or] at h3
    exact h3
theorem but_truths (s : Se) (l : List Int) (hl : ∀ x ∈ l, 0 ≤ x) : truthsR (butSe s l) 0 = truthsR s (Few.bitsL l) := by
  unfold truthsR
  rw [but_all]
  show (allB s s.1.length).filter _ = _
  exact List.filter_congr fun q _ => but_ok s l hl q
theorem okW_but {s : Se} (hs : VS s) (l : List Int) (hl : ∀ x ∈ l, 0 ≤ x) : okW s l = decide (truthsR (butSe s l) 0 ≠ []) := by
  unfold okW
  rw [but_truths s l hl, truths_eq hs]
  rw [Bool.eq_iff_iff, decide_eq_true_eq, decide_eq_true_eq]
  simp
def idxL (s : Se) : List Int := upto 0 (s.2.1.length : Nat)
theorem idx_len (s : Se) : (idxL s).length = s.2.1.length := by
  unfold idxL
  rw [Few.upto_len]; omega
theorem idx_get (s : Se) {i : Nat} (h : i < s.2.1.length) : (idxL s).getD i 0 = (i : Int) := by
  rw [getD_lt (by rw [idx_len]; exact h)]
  unfold idxL upto
  simp
theorem pick_id (s : Se) {l : List Int} (h : ∀ x ∈ l, 0 ≤ x ∧ x < (s.2.1.length : Int)) : Few.pick (idxL s) l = l := by
  unfold Few.pick
  refine (List.map_congr_left fun x hx => ?_).trans (List.map_id l)
  have := h x hx
  rw [idx_get s (by omega)]
  simp only [id]
  omega
theorem subs_choose (s : Se) (m : Nat) : Few.subs (idxL s) m = chooseL (s.2.1.length : Nat) m := by
  unfold Few.subs
  rw [idx_len]
  refine (List.map_congr_left fun l hl => ?_).trans (List.map_id _)
  exact pick_id s (mem_chooseL.1 hl).in_
theorem sel_nums (s : Se) (set : Nat) : ∀ j, j ≤ s.2.1.length → Few.selB (idxL s) set j = numsL (set.testBit ·) j
  | 0, _ => rfl
  | j + 1, h => by
    rw [numsL_succ, ← sel_nums s set j (by omega)]
    simp only [Few.selB, idx_get s (show j < s.2.1.length by omega)]
theorem bits_sets (s : Se) : Few.byBits (idxL s) = setsL s.2.1.length 0 (2 ^ s.2.1.length) := by
  unfold Few.byBits setsL
  rw [idx_len, ← List.range_eq_range']
  exact List.map_congr_left fun set _ => sel_nums s set _ (Nat.le_refl _)
theorem wrong_find {s : Se} (h0 : (chkP s).2.2.1 = 0) : wrongP s = match (Few.subsTo (idxL s) (s.2.1.length + 1)).find? (okW s) with
    | some r => (r, 0, ())
    | none => ([], 9, ()) := by
  have hsf := Few.scan_find (ok := okW s) (ok' := okW s) (hs := idxL s) (show (idxL s).Pairwise (· < ·) from Few.upto_pair _ _) fun _ _ => rfl
  rw [bits_sets, idx_len] at hsf
  unfold wrongP
  rw [if_pos h0]
  cases hf : (Few.subsTo (idxL s) (s.2.1.length + 1)).find? (okW s) with
  | some r => rw [hsf.1 r hf]; rfl
  | none => rw [hsf.2 hf]; rfl
theorem find_drop' {ok : List Int → Bool} {L : List (List Int)} {i : Nat} (h : i < L.length) : (L.drop i).find? ok = if ok L[i] = true then some L[i] else (L.drop (i + 1)).find? ok := by
  rw [List.drop_eq_getElem_cons h, List.find?_cons]
  cases ok L[i] <;> rfl
theorem L34 (s : Se) : F34 ((s, ()) : Se × Unit) = some (wrongP s) := by
  refine N34 _ ?_
  rw [L18 s]
  simp only [Option.bind_some]
  by_cases h0 : (chkP s).2.2.1 = 0
  · have hs := chk_zero h0
    have h4 := hs.many
    rw [h0, wrong_find h0]
    simp only [bne_self_eq_false, cond_false]
    have outer : ∀ (c m : Nat), m + c = s.2.1.length + 1 → (Few.subsTo (idxL s) m).find? (okW s) = none → Ev fun k => T34_0 m s k = some (match (Few.subsTo (idxL s) (s.2.1.length + 1)).find? (okW s) with
        | some r => (r, 0, ())
        | none => ([], 9, ())) := by
      intro c
      induction c with
      | zero =>
        intro m hm hn
        obtain rfl : m = s.2.1.length + 1 := by omega
        refine R34_0 _ _ ?_
        rw [dec_f (by omega), hn]
        exact Ev.all fun _ => rfl
      | succ c ih =>
        intro m hm hn
        have hih := ih (m + 1) (by omega)
        rw [Few.subsTo, List.find?_append, hn, Option.none_or, subs_choose] at hih
        have hfin : ∀ r, (chooseL (s.2.1.length : Nat) m).find? (okW s) = some r → (Few.subsTo (idxL s) (s.2.1.length + 1)).find? (okW s) = some r := fun r hr => by
          have h1 : (Few.subsTo (idxL s) (m + 1)).find? (okW s) = some r := by rw [Few.subsTo, List.find?_append, hn, subs_choose, hr]; rfl
          exact Few.find_mono h1 (by omega)
        have hr : ∀ l ∈ chooseL (s.2.1.length : Nat) m, l.length = m ∧ ∀ x ∈ l, 0 ≤ x := fun l hl => ⟨(mem_chooseL.1 hl).len, fun x hx => ((mem_chooseL.1 hl).in_ x hx).1⟩
        have hcap := chooseL_cap (b := s.2.1.length) (m := m) (by omega) (by omega)
        refine R34_0 _ _ ?_
        rw [dec_t (show (m : Int) ≤ (s.2.1.length : Int) by omega), L108 _ _ (by omega) (by omega)]
        simp only [cond_true, Option.bind_some]
        generalize chooseL (s.2.1.length : Nat) m = L at *
        have inner : ∀ (c i : Nat), i + c = L.length → (L.drop i).find? (okW s) = L.find? (okW s) → Ev fun k => T34_1 m L i s k = some (match (Few.subsTo (idxL s) (s.2.1.length + 1)).find? (okW s) with
            | some r => (r, 0, ())
            | none => ([], 9, ())) := by
          intro c
          induction c with
          | zero =>
            intro i hi he
            refine R34_1 _ _ _ _ ?_
            rw [List.drop_eq_nil_of_le (by omega)] at he
            rw [dec_f (show ¬ ((i : Int) < (L.length : Int)) by omega), wrap_succ (n := m) (by omega)]
            exact hih he.symm
          | succ c ihi =>
            intro i hi he
            refine R34_1 _ _ _ _ ?_
            have hlt : i < L.length := by omega
            have hl := hr _ (List.getElem_mem hlt)
            rw [find_drop' hlt, okW_but hs _ hl.2] at he
            rw [dec_t (show (i : Int) < (L.length : Int) by omega), dec_t (show (0 : Int) ≤ (i : Int) by omega), Int.toNat_natCast, getD_lt hlt, wrap_succ (n := i) (by omega), L54 s _ (by omega) h4]
            simp only [Bool.and_self, cond_true, Option.bind_some]
            rw [L52 _ (but_vs hs _)]
            simp only [Option.bind_some]
            by_cases ht : truthsR (butSe s L[i]) 0 = []
            · rw [dec_f (fun h => h ht), if_neg (by simp)] at he
              rw [ht, dec_f (by simp)]
              exact ihi (i + 1) (by omega) he
            · rw [dec_t ht, if_pos rfl] at he
              have := List.length_pos_iff.2 ht
              rw [dec_t (show ((truthsR (butSe s L[i]) 0).length : Int) > 0 by omega), hfin _ he.symm]
              exact Ev.all fun _ => rfl
        exact inner L.length 0 (by omega) (by rw [List.drop_zero])
    exact outer (s.2.1.length + 1) 0 (by omega) rfl
  · have hv : wrongP s = ([], (chkP s).2.2.1, ()) := if_neg h0
    rw [hv, show ((chkP s).2.2.1 != 0) = true from bne_iff_ne.2 h0]
    exact Ev.all fun _ => rfl
end Go.Proofs.YtkbephbhajplhaaDoor
