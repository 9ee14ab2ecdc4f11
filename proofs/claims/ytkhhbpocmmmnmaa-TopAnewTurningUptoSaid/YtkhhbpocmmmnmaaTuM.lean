/- What stands at the cuts of the closures that go through all truths, for each function that does. Conditions: as each lemma states. (Printed by dfs.py.) -/
import Derived.Test.YtkhhbpocmmmnmaaTuTB
import Derived.Test.YtkhhbpocmmmnmaaTuL
namespace Go.Proofs.Ytkhhbpocmmmnmaa
open Go Go.Gh Go.Proofs
theorem eqDs_nil (t : Ty) : eqDs t [] [] = true := by simp [eqDs]
theorem eqDs_r (t : Ty) (y : den t) (ys : List (den t)) : eqDs t [] (y :: ys) = false := by simp [eqDs]
theorem eqDs_l (t : Ty) (y : den t) (ys : List (den t)) : eqDs t (y :: ys) [] = false := by simp [eqDs]
theorem eqDs_c (t : Ty) (x : den t) (xs : List (den t)) (y : den t) (ys : List (den t)) : eqDs t (x :: xs) (y :: ys) = (eqD t x y && eqDs t xs ys) := by simp [eqDs]
theorem eqArr : ∀ (a b : List Int), eqDs (Ty.int IntKind.i64) a b = decide (a = b)
 | [], [] => eqDs_nil _
 | [], _ :: _ => (eqDs_r (Ty.int IntKind.i64) _ _).trans (dec_f (by simp)).symm
 | _ :: _, [] => (eqDs_l (Ty.int IntKind.i64) _ _).trans (dec_f (by simp)).symm
 | x :: xs, y :: ys => by
  have h := eqArr xs ys
  refine (eqDs_c (Ty.int IntKind.i64) x xs y ys).trans ?_
  rw [h, Bool.eq_iff_iff, Bool.and_eq_true, decide_eq_true_eq, decide_eq_true_eq, List.cons.injEq]
  simp [eqD]
theorem eqArr3 (a b : List Int) : eqD (Ty.arr 3 (Ty.int IntKind.i64)) a b = decide (a = b) := by
 rw [← eqArr a b]
 simp only [eqD]
abbrev Hl := Sp × Bool × Unit
theorem okP_self (s : Su) (r g : List Int) (i : Nat) : okP s r g i i = true := by simp [okP]
theorem okP_lt {s : Su} {r g : List Int} {i k : Nat} (h : k < i) : okP s r g i k = (g.getD k 0 == (k : Int) && joinsP s r g i k) := by
 unfold okP
 rw [show (k == i) = false by simp; omega, Bool.false_or]
theorem getD_take {l : List Int} {i a : Nat} (h : a < i) : (l.take i).getD a 0 = l.getD a 0 := by
 simp [List.getD_eq_getElem?_getD, h]
theorem okP_take (s : Su) (r : List Int) (g : List Int) (i k : Nat) (_ : i ≤ g.length) (hk : k ≤ i) : okP s r g i k = okP s r (g.take i) i k := by
 by_cases e : k = i
 ·subst e
  rw [okP_self, okP_self]
 ·rw [okP_lt (by omega), okP_lt (by omega), getD_take (by omega)]
  congr 1
  unfold joinsP
  exact all_same fun a ha => by rw [getD_take ha]
theorem if_min (a b : Int) : (if b < a then b else a) = min a b := by
 split <;> omega
def stepG {C : Type} (s : Su) (but : Nat) (step : C → List Int × List Int → C × Bool) (r : List Int) (c : C) (g : List Int) : C × Bool := if soP s but.testBit g = true then step c (r, g) else (c, true)
def stepR {C : Type} (s : Su) (but : Nat) (step : C → List Int × List Int → C × Bool) (c : C) (r : List Int) : C × Bool := foldT (stepG s but step r) (partsP s r) c
theorem fold_truths {C : Type} (s : Su) (but : Nat) (step : C → List Int × List Int → C × Bool) (c : C) : foldT (stepR s but step) (ratesP s) c = foldT step (truthsP s but.testBit) c := by
 unfold truthsP
 rw [foldT_flat]
 congr 1
 funext c r
 rw [foldT_map, foldT_filter]
 rfl
def pg_106 (s : Su) (but : Nat) (r : List Int) (ok : Bool) (C : Bool) (g : List Int) : R106s124 := ((ok, ()), C, ((if ok = true then 0 else 1 : Nat), (), ()), (hn s (but : Int)), (), (((hn s (but : Int)), ()), ()), ((), (), (), ()), (hn s (but : Int)), (), r, r, ((), (), (), (), (), (), ()), r, (pairsP s r), g, ((), (), (), (), (), (), (), (), ()), ())
def pr_106 (s : Su) (but : Nat) (ok : Bool) (C : Bool) (r l : List Int) : R106s134 := ((ok, ()), C, ((if ok = true then 0 else 1 : Nat), (), ()), (hn s (but : Int)), (), (((hn s (but : Int)), ()), ()), ((if ok = true then 0 else 1 : Nat), (), (), (), ()), (hn s (but : Int)), (), r, l, ((), (), (), (), (), (), ()), ())
noncomputable def g0_106 (s : Su) (but : Nat) (r : List Int) (i : Nat) (C : Bool) (g : List Int) (y : R106s124) : Prop := Ev fun k => T106s124_0 (i : Int) C (hn s (but : Int)) (hn s (but : Int)) (hn s (but : Int)) r r r (pairsP s r) g k = some y
noncomputable def g1_106 (s : Su) (but : Nat) (r : List Int) (i k0 : Nat) (C : Bool) (g : List Int) (y : R106s124) : Prop := Ev fun k => T106s124_1 (i : Int) ((i + 1 : Nat) : Int) (k0 : Int) C (hn s (but : Int)) (hn s (but : Int)) (hn s (but : Int)) r r r (pairsP s r) g k = some y
noncomputable def r0_106 (s : Su) (but : Nat) (i : Nat) (m : Int) (C : Bool) (r l : List Int) (y : R106s134) : Prop := Ev fun k => T106s134_0 (i : Int) m C (hn s (but : Int)) (hn s (but : Int)) (hn s (but : Int)) r l k = some y
noncomputable def r1_106 (s : Su) (but : Nat) (i : Nat) (m v : Int) (C : Bool) (r l : List Int) (y : R106s134) : Prop := Ev fun k => T106s134_1 (i : Int) m v C (hn s (but : Int)) (hn s (but : Int)) (hn s (but : Int)) r l k = some y
section
variable {s : Su} {but : Nat} {r l g : List Int} {C : Bool} {y : R106s124} {z : R106s134}
theorem gnode_106 {i : Nat} (hs : VS s) (hi : i < s.2.2.1.length) (h : g1_106 s but r i 0 C g y) : g0_106 s but r i C g y := by
 have h5 := hs.n5
 refine R106s124_0 _ _ _ _ _ _ _ _ _ _ ?_
 simp only [Option.bind_some]
 rw [bqf (show (i : Int) ≠ (s.2.2.1.length : Int) by omega), wrap_succ (n := i) (by omega)]
 exact h
theorem gnot_106 (hs : VS s) (hb : but < 1000000000000) (h : soP s but.testBit g = false) : g0_106 s but r s.2.2.1.length C g (pg_106 s but r true C g) := by
 refine R106s124_0 _ _ _ _ _ _ _ _ _ _ ?_
 simp only [Option.bind_some]
 rw [bq rfl, L125 hs hb, h]
 exact Ev.all fun _ => rfl
theorem gdone_106 {i : Nat} : g1_106 s but r i (i + 1) C g (pg_106 s but r true C g) := by
 refine R106s124_1 _ _ _ _ _ _ _ _ _ _ _ _ ?_
 rw [dec_f (show ¬ ((i + 1 : Nat) : Int) < ((i + 1 : Nat) : Int) by omega)]
 exact Ev.all fun _ => rfl
theorem gskip_106 {i k : Nat} (hs : VS s) (hi : i < s.2.2.1.length) (hk : k ≤ i) (ho : okP s r g i k = false) (h : g1_106 s but r i (k + 1) C g y) : g1_106 s but r i k C g y := by
 have h5 := hs.n5
 have hlt : k < i := by
  rcases Nat.lt_or_eq_of_le hk with h | rfl
  ·exact h
  ·rw [okP_self] at ho; cases ho
 rw [okP_lt hlt] at ho
 refine R106s124_1 _ _ _ _ _ _ _ _ _ _ _ _ ?_
 rw [dec_t (show (k : Int) < ((i + 1 : Nat) : Int) by omega), dec_t (show (k : Int) < (i : Int) by omega), dec_t (show (0 : Int) ≤ (k : Int) by omega), dec_t (show (k : Int) < 5 by omega), dec_t (show Int.toNat (k : Int) < 5 by omega), wrap_succ (n := k) (by omega), Int.toNat_natCast, L121 hs (but : Int) r g i k hi]
 simp only [Bool.and_self, cond_true, Option.bind_some]
 cases hq : (g.getD k 0 == (k : Int)) with
 | false =>
  rw [show (g.getD k 0 != (k : Int)) = true by simpa using hq]
  exact h
 | true =>
  rw [hq, Bool.true_and] at ho
  rw [show (g.getD k 0 != (k : Int)) = false by simpa using hq, ho]
  exact h
theorem gcall_106 {i k : Nat} {b : Bool} {C' : Bool} {g' : List Int} (hs : VS s) (hi : i < s.2.2.1.length) (hk : k ≤ i) (ho : okP s r g i k = true) (h : g0_106 s but r (i + 1) C (g.set i (k : Int)) (pg_106 s but r b C' g')) (ht : b = true → g1_106 s but r i (k + 1) C' g' y) (hf : b = false → y = pg_106 s but r false C' g') : g1_106 s but r i k C g y := by
 have h5 := hs.n5
 refine R106s124_1 _ _ _ _ _ _ _ _ _ _ _ _ ?_
 rw [dec_t (show (k : Int) < ((i + 1 : Nat) : Int) by omega), dec_t (show (0 : Int) ≤ (i : Int) by omega), dec_t (show (i : Int) < 5 by omega), dec_t (show Int.toNat (i : Int) < 5 by omega), wrap_succ (n := i) (by omega), wrap_succ (n := k) (by omega), Int.toNat_natCast, Int.toNat_natCast]
 simp only [Bool.and_self, cond_true]
 rcases Nat.lt_or_eq_of_le hk with hlt | rfl
 ·rw [okP_lt hlt, Bool.and_eq_true] at ho
  have e1 : (g.getD k 0 != (k : Int)) = false := by simpa using ho.1
  rw [dec_t (show (k : Int) < (i : Int) by omega), dec_t (show (0 : Int) ≤ (k : Int) by omega), dec_t (show (k : Int) < 5 by omega), dec_t (show k < 5 by omega), e1, L121 hs (but : Int) r g i k hi, ho.2]
  simp only [Bool.and_self, cond_true, cond_false, Option.bind_some, Bool.not_true]
  refine Ev.sub h ?_
  cases b with
  | true => exact ht rfl
  | false =>
   rw [hf rfl]
   exact Ev.all fun _ => rfl
 ·rw [dec_f (show ¬ (k : Int) < (k : Int) by omega)]
  simp only [cond_false]
  refine Ev.sub h ?_
  cases b with
  | true => exact ht rfl
  | false =>
   rw [hf rfl]
   exact Ev.all fun _ => rfl
theorem rnode_106 {i : Nat} {m : Int} (hi : i < s.1.length) (h : r1_106 s but i m (s.1.getD i sp0).1 C r l z) : r0_106 s but i m C r l z := by
 refine R106s134_0 _ _ _ _ _ _ _ _ ?_
 simp only [Option.bind_some]
 rw [bqf (show (i : Int) ≠ (s.1.length : Int) by omega), dec_t (show (i : Int) < (s.1.length : Int) by omega), dec_t (show (0 : Int) ≤ (i : Int) by omega), Int.toNat_natCast]
 simp only [Bool.and_self, cond_true, cond_false]
 exact h
theorem rdone_106 {i : Nat} {m v : Int} (hi : i < s.1.length) (hv : min m (s.1.getD i sp0).2.1 < v) : r1_106 s but i m v C r l (pr_106 s but true C r l) := by
 refine R106s134_1 _ _ _ _ _ _ _ _ _ ?_
 simp only [Option.bind_some]
 rw [dec_t (show (i : Int) < (s.1.length : Int) by omega), dec_t (show (0 : Int) ≤ (i : Int) by omega), Int.toNat_natCast, show s.1.getD i (0, 0, ()) = s.1.getD i sp0 from rfl, if_min, dec_f (show ¬ v ≤ min m (s.1.getD i sp0).2.1 by omega)]
 simp only [Bool.and_self, cond_true, cond_false]
 exact Ev.all fun _ => rfl
theorem rcall_106 {i : Nat} {m v : Int} {b : Bool} {C' : Bool} {r' l' : List Int} (hs : VS s) (hi : i < s.1.length) (v0 : 0 ≤ v) (hv : v ≤ min m (s.1.getD i sp0).2.1) (v1 : v ≤ 16) (h : r0_106 s but (i + 1) v C (r.set i v) l (pr_106 s but b C' r' l')) (ht : b = true → r1_106 s but i m (v + 1) C' r' l' z) (hf : b = false → z = pr_106 s but false C' r' l') : r1_106 s but i m v C r l z := by
 have h3 := hs.b3
 refine R106s134_1 _ _ _ _ _ _ _ _ _ ?_
 simp only [Option.bind_some]
 rw [dec_t (show (i : Int) < (s.1.length : Int) by omega), dec_t (show (0 : Int) ≤ (i : Int) by omega), Int.toNat_natCast, show s.1.getD i (0, 0, ()) = s.1.getD i sp0 from rfl, if_min, dec_t hv, dec_t (show (i : Int) < 3 by omega), dec_t (show i < 3 by omega), wrap_succ (n := i) (by omega), wrap_id (x := v + 1) (by omega) (by omega)]
 simp only [Bool.and_self, cond_true]
 refine Ev.sub h ?_
 cases b with
 | true => exact ht rfl
 | false =>
  rw [hf rfl]
  exact Ev.all fun _ => rfl
end
section
variable (s : Su) (but : Nat) (hs : VS s) (hb : but < 1000000000000) (step : Bool → List Int × List Int → Bool × Bool)
 (hfin : ∀ {C : Bool} {r g : List Int}, Good 3 16 r → Good 5 4 g → soP s but.testBit g = true → g0_106 s but r s.2.2.1.length C g (pg_106 s but r (step C (r, g)).2 (step C (r, g)).1 g))
 include hs hb hfin
noncomputable def dg_106 {r : List Int} (hr : Good 3 16 r) : DfsG (Bool) (R106s124) s.2.2.1.length (okP s r) (stepG s but step r) where
 A0 := g0_106 s but r
 A1 := g1_106 s but r
 P := pg_106 s but r
 leaf := fun {C g} hg => by
  unfold stepG
  cases h : soP s but.testBit g with
  | true => rw [if_pos rfl]; exact hfin hr hg h
  | false => rw [if_neg (by decide)]; exact gnot_106 hs hb h
 node := gnode_106 hs
 done := fun _ => gdone_106
 skip := fun h1 h2 _ => gskip_106 hs h1 h2
 call := fun h1 h2 _ => gcall_106 hs h1 h2
theorem rleaf_106 {m : Int} {C : Bool} {r l : List Int} (hne : r ≠ l) (hr : Good 3 16 r) : r0_106 s but s.1.length m C r l (pr_106 s but (stepR s but step C r).2 (stepR s but step C r).1 r r) := by
 obtain ⟨g', hg', _, _, h⟩ := (dg_106 s but hs hb step hfin hr).run hs.n5 (okP_take s r) s.2.2.1.length 0 [] C (List.replicate 5 0) (by omega) rfl ⟨by simp, fun x hx => by rw [List.mem_replicate] at hx; omega⟩ rfl (by rw [List.drop_replicate])
 refine R106s134_0 _ _ _ _ _ _ _ _ ?_
 simp only [Option.bind_some]
 rw [bq rfl, eqArr3, dec_f hne, L123 hs (but : Int) hr]
 simp only [cond_true, cond_false, Option.bind_some]
 have e := gsub_eq h
 unfold stepR
 rw [show partsP s r = gExt (okP s r) s.2.2.1.length [] from rfl]
 generalize foldT (stepG s but step r) (gExt (okP s r) s.2.2.1.length []) C = q at *
 obtain ⟨C', b⟩ := q
 refine Ev.all fun _ => ?_
 refine (congrArg (fun o => Option.bind o _) e).trans ?_
 cases b <;> rfl
theorem run_106 (C : Bool) : ∃ r' l', Good 3 16 r' ∧ r0_106 s but 0 16 C (List.replicate 3 0) (-1 :: List.replicate 2 0) (pr_106 s but (foldT step (truthsP s but.testBit) C).2 (foldT step (truthsP s but.testBit) C).1 r' l') := by
 have := (show DfsR (Bool) (R106s134) s (stepR s but step) from
  { A0 := r0_106 s but, A1 := r1_106 s but, P := pr_106 s but, leaf := fun h1 h2 => rleaf_106 s but hs hb step hfin h1 h2, node := rnode_106, done := rdone_106, call := fun h1 h2 h3 h4 _ h5 h6 h7 => rcall_106 hs h1 h2 h3 h4 h5 h6 h7 }).all hs C
 rw [fold_truths] at this
 exact this
end
def pg_21 (s : Su) (but : Nat) (a : Int) (r : List Int) (ok : Bool) (C : Hl) (g : List Int) : R21s124 := ((ok, ()), a, ((0, 0, ()) : Sp), ((), (), ()), ((0, 0, ()) : Sp), C, ((if ok = true then 0 else 0 : Nat), (), (), ()), (hn s (but : Int)), (), (((hn s (but : Int)), ()), ()), ((), (), (), ()), (hn s (but : Int)), (), r, r, ((), (), (), (), (), (), ()), r, (pairsP s r), g, ((), (), (), (), (), (), (), (), ()), ())
def pr_21 (s : Su) (but : Nat) (a : Int) (ok : Bool) (C : Hl) (r l : List Int) : R21s134 := ((ok, ()), a, ((0, 0, ()) : Sp), ((), (), ()), ((0, 0, ()) : Sp), C, ((if ok = true then 0 else 0 : Nat), (), (), ()), (hn s (but : Int)), (), (((hn s (but : Int)), ()), ()), ((if ok = true then 0 else 1 : Nat), (), (), (), ()), (hn s (but : Int)), (), r, l, ((), (), (), (), (), (), ()), ())
noncomputable def g0_21 (s : Su) (but : Nat) (a : Int) (r : List Int) (i : Nat) (C : Hl) (g : List Int) (y : R21s124) : Prop := Ev fun k => T21s124_0 (i : Int) a ((0, 0, ()) : Sp) ((0, 0, ()) : Sp) C (hn s (but : Int)) (hn s (but : Int)) (hn s (but : Int)) r r r (pairsP s r) g k = some y
noncomputable def g1_21 (s : Su) (but : Nat) (a : Int) (r : List Int) (i k0 : Nat) (C : Hl) (g : List Int) (y : R21s124) : Prop := Ev fun k => T21s124_1 (i : Int) ((i + 1 : Nat) : Int) (k0 : Int) a ((0, 0, ()) : Sp) ((0, 0, ()) : Sp) C (hn s (but : Int)) (hn s (but : Int)) (hn s (but : Int)) r r r (pairsP s r) g k = some y
noncomputable def r0_21 (s : Su) (but : Nat) (a : Int) (i : Nat) (m : Int) (C : Hl) (r l : List Int) (y : R21s134) : Prop := Ev fun k => T21s134_0 (i : Int) m a ((0, 0, ()) : Sp) ((0, 0, ()) : Sp) C (hn s (but : Int)) (hn s (but : Int)) (hn s (but : Int)) r l k = some y
noncomputable def r1_21 (s : Su) (but : Nat) (a : Int) (i : Nat) (m v : Int) (C : Hl) (r l : List Int) (y : R21s134) : Prop := Ev fun k => T21s134_1 (i : Int) m v a ((0, 0, ()) : Sp) ((0, 0, ()) : Sp) C (hn s (but : Int)) (hn s (but : Int)) (hn s (but : Int)) r l k = some y
section
variable {s : Su} {but : Nat} {a : Int} {r l g : List Int} {C : Hl} {y : R21s124} {z : R21s134}
theorem gnode_21 {i : Nat} (hs : VS s) (hi : i < s.2.2.1.length) (h : g1_21 s but a r i 0 C g y) : g0_21 s but a r i C g y := by
 have h5 := hs.n5
 refine R21s124_0 _ _ _ _ _ _ _ _ _ _ _ _ _ ?_
 simp only [Option.bind_some]
 rw [bqf (show (i : Int) ≠ (s.2.2.1.length : Int) by omega), wrap_succ (n := i) (by omega)]
 exact h
theorem gnot_21 (hs : VS s) (hb : but < 1000000000000) (h : soP s but.testBit g = false) : g0_21 s but a r s.2.2.1.length C g (pg_21 s but a r true C g) := by
 refine R21s124_0 _ _ _ _ _ _ _ _ _ _ _ _ _ ?_
 simp only [Option.bind_some]
 rw [bq rfl, L125 hs hb, h]
 exact Ev.all fun _ => rfl
theorem gdone_21 {i : Nat} : g1_21 s but a r i (i + 1) C g (pg_21 s but a r true C g) := by
 refine R21s124_1 _ _ _ _ _ _ _ _ _ _ _ _ _ _ _ ?_
 rw [dec_f (show ¬ ((i + 1 : Nat) : Int) < ((i + 1 : Nat) : Int) by omega)]
 exact Ev.all fun _ => rfl
theorem gskip_21 {i k : Nat} (hs : VS s) (hi : i < s.2.2.1.length) (hk : k ≤ i) (ho : okP s r g i k = false) (h : g1_21 s but a r i (k + 1) C g y) : g1_21 s but a r i k C g y := by
 have h5 := hs.n5
 have hlt : k < i := by
  rcases Nat.lt_or_eq_of_le hk with h | rfl
  ·exact h
  ·rw [okP_self] at ho; cases ho
 rw [okP_lt hlt] at ho
 refine R21s124_1 _ _ _ _ _ _ _ _ _ _ _ _ _ _ _ ?_
 rw [dec_t (show (k : Int) < ((i + 1 : Nat) : Int) by omega), dec_t (show (k : Int) < (i : Int) by omega), dec_t (show (0 : Int) ≤ (k : Int) by omega), dec_t (show (k : Int) < 5 by omega), dec_t (show Int.toNat (k : Int) < 5 by omega), wrap_succ (n := k) (by omega), Int.toNat_natCast, L121 hs (but : Int) r g i k hi]
 simp only [Bool.and_self, cond_true, Option.bind_some]
 cases hq : (g.getD k 0 == (k : Int)) with
 | false =>
  rw [show (g.getD k 0 != (k : Int)) = true by simpa using hq]
  exact h
 | true =>
  rw [hq, Bool.true_and] at ho
  rw [show (g.getD k 0 != (k : Int)) = false by simpa using hq, ho]
  exact h
theorem gcall_21 {i k : Nat} {b : Bool} {C' : Hl} {g' : List Int} (hs : VS s) (hi : i < s.2.2.1.length) (hk : k ≤ i) (ho : okP s r g i k = true) (h : g0_21 s but a r (i + 1) C (g.set i (k : Int)) (pg_21 s but a r b C' g')) (ht : b = true → g1_21 s but a r i (k + 1) C' g' y) (hf : b = false → y = pg_21 s but a r false C' g') : g1_21 s but a r i k C g y := by
 have h5 := hs.n5
 refine R21s124_1 _ _ _ _ _ _ _ _ _ _ _ _ _ _ _ ?_
 rw [dec_t (show (k : Int) < ((i + 1 : Nat) : Int) by omega), dec_t (show (0 : Int) ≤ (i : Int) by omega), dec_t (show (i : Int) < 5 by omega), dec_t (show Int.toNat (i : Int) < 5 by omega), wrap_succ (n := i) (by omega), wrap_succ (n := k) (by omega), Int.toNat_natCast, Int.toNat_natCast]
 simp only [Bool.and_self, cond_true]
 rcases Nat.lt_or_eq_of_le hk with hlt | rfl
 ·rw [okP_lt hlt, Bool.and_eq_true] at ho
  have e1 : (g.getD k 0 != (k : Int)) = false := by simpa using ho.1
  rw [dec_t (show (k : Int) < (i : Int) by omega), dec_t (show (0 : Int) ≤ (k : Int) by omega), dec_t (show (k : Int) < 5 by omega), dec_t (show k < 5 by omega), e1, L121 hs (but : Int) r g i k hi, ho.2]
  simp only [Bool.and_self, cond_true, cond_false, Option.bind_some, Bool.not_true]
  refine Ev.sub h ?_
  cases b with
  | true => exact ht rfl
  | false =>
   rw [hf rfl]
   exact Ev.all fun _ => rfl
 ·rw [dec_f (show ¬ (k : Int) < (k : Int) by omega)]
  simp only [cond_false]
  refine Ev.sub h ?_
  cases b with
  | true => exact ht rfl
  | false =>
   rw [hf rfl]
   exact Ev.all fun _ => rfl
theorem rnode_21 {i : Nat} {m : Int} (hi : i < s.1.length) (h : r1_21 s but a i m (s.1.getD i sp0).1 C r l z) : r0_21 s but a i m C r l z := by
 refine R21s134_0 _ _ _ _ _ _ _ _ _ _ _ ?_
 simp only [Option.bind_some]
 rw [bqf (show (i : Int) ≠ (s.1.length : Int) by omega), dec_t (show (i : Int) < (s.1.length : Int) by omega), dec_t (show (0 : Int) ≤ (i : Int) by omega), Int.toNat_natCast]
 simp only [Bool.and_self, cond_true, cond_false]
 exact h
theorem rdone_21 {i : Nat} {m v : Int} (hi : i < s.1.length) (hv : min m (s.1.getD i sp0).2.1 < v) : r1_21 s but a i m v C r l (pr_21 s but a true C r l) := by
 refine R21s134_1 _ _ _ _ _ _ _ _ _ _ _ _ ?_
 simp only [Option.bind_some]
 rw [dec_t (show (i : Int) < (s.1.length : Int) by omega), dec_t (show (0 : Int) ≤ (i : Int) by omega), Int.toNat_natCast, show s.1.getD i (0, 0, ()) = s.1.getD i sp0 from rfl, if_min, dec_f (show ¬ v ≤ min m (s.1.getD i sp0).2.1 by omega)]
 simp only [Bool.and_self, cond_true, cond_false]
 exact Ev.all fun _ => rfl
theorem rcall_21 {i : Nat} {m v : Int} {b : Bool} {C' : Hl} {r' l' : List Int} (hs : VS s) (hi : i < s.1.length) (v0 : 0 ≤ v) (hv : v ≤ min m (s.1.getD i sp0).2.1) (v1 : v ≤ 16) (h : r0_21 s but a (i + 1) v C (r.set i v) l (pr_21 s but a b C' r' l')) (ht : b = true → r1_21 s but a i m (v + 1) C' r' l' z) (hf : b = false → z = pr_21 s but a false C' r' l') : r1_21 s but a i m v C r l z := by
 have h3 := hs.b3
 refine R21s134_1 _ _ _ _ _ _ _ _ _ _ _ _ ?_
 simp only [Option.bind_some]
 rw [dec_t (show (i : Int) < (s.1.length : Int) by omega), dec_t (show (0 : Int) ≤ (i : Int) by omega), Int.toNat_natCast, show s.1.getD i (0, 0, ()) = s.1.getD i sp0 from rfl, if_min, dec_t hv, dec_t (show (i : Int) < 3 by omega), dec_t (show i < 3 by omega), wrap_succ (n := i) (by omega), wrap_id (x := v + 1) (by omega) (by omega)]
 simp only [Bool.and_self, cond_true]
 refine Ev.sub h ?_
 cases b with
 | true => exact ht rfl
 | false =>
  rw [hf rfl]
  exact Ev.all fun _ => rfl
end
section
variable (s : Su) (but : Nat) (a : Int) (hs : VS s) (hb : but < 1000000000000) (step : Hl → List Int × List Int → Hl × Bool)
 (hfin : ∀ {C : Hl} {r g : List Int}, Good 3 16 r → Good 5 4 g → soP s but.testBit g = true → g0_21 s but a r s.2.2.1.length C g (pg_21 s but a r (step C (r, g)).2 (step C (r, g)).1 g))
 include hs hb hfin
noncomputable def dg_21 {r : List Int} (hr : Good 3 16 r) : DfsG (Hl) (R21s124) s.2.2.1.length (okP s r) (stepG s but step r) where
 A0 := g0_21 s but a r
 A1 := g1_21 s but a r
 P := pg_21 s but a r
 leaf := fun {C g} hg => by
  unfold stepG
  cases h : soP s but.testBit g with
  | true => rw [if_pos rfl]; exact hfin hr hg h
  | false => rw [if_neg (by decide)]; exact gnot_21 hs hb h
 node := gnode_21 hs
 done := fun _ => gdone_21
 skip := fun h1 h2 _ => gskip_21 hs h1 h2
 call := fun h1 h2 _ => gcall_21 hs h1 h2
theorem rleaf_21 {m : Int} {C : Hl} {r l : List Int} (hne : r ≠ l) (hr : Good 3 16 r) : r0_21 s but a s.1.length m C r l (pr_21 s but a (stepR s but step C r).2 (stepR s but step C r).1 r r) := by
 obtain ⟨g', hg', _, _, h⟩ := (dg_21 s but a hs hb step hfin hr).run hs.n5 (okP_take s r) s.2.2.1.length 0 [] C (List.replicate 5 0) (by omega) rfl ⟨by simp, fun x hx => by rw [List.mem_replicate] at hx; omega⟩ rfl (by rw [List.drop_replicate])
 refine R21s134_0 _ _ _ _ _ _ _ _ _ _ _ ?_
 simp only [Option.bind_some]
 rw [bq rfl, eqArr3, dec_f hne, L123 hs (but : Int) hr]
 simp only [cond_true, cond_false, Option.bind_some]
 have e := gsub_eq h
 unfold stepR
 rw [show partsP s r = gExt (okP s r) s.2.2.1.length [] from rfl]
 generalize foldT (stepG s but step r) (gExt (okP s r) s.2.2.1.length []) C = q at *
 obtain ⟨C', b⟩ := q
 refine Ev.all fun _ => ?_
 refine (congrArg (fun o => Option.bind o _) e).trans ?_
 cases b <;> rfl
theorem run_21 (C : Hl) : ∃ r' l', Good 3 16 r' ∧ r0_21 s but a 0 16 C (List.replicate 3 0) (-1 :: List.replicate 2 0) (pr_21 s but a (foldT step (truthsP s but.testBit) C).2 (foldT step (truthsP s but.testBit) C).1 r' l') := by
 have := (show DfsR (Hl) (R21s134) s (stepR s but step) from
  { A0 := r0_21 s but a, A1 := r1_21 s but a, P := pr_21 s but a, leaf := fun h1 h2 => rleaf_21 s but a hs hb step hfin h1 h2, node := rnode_21, done := rdone_21, call := fun h1 h2 h3 h4 _ h5 h6 h7 => rcall_21 hs h1 h2 h3 h4 h5 h6 h7 }).all hs C
 rw [fold_truths] at this
 exact this
end
def pg_23 (s : Su) (but : Nat) (a c : Int) (r : List Int) (ok : Bool) (C : (Int × Int)) (g : List Int) : R23s124 := ((ok, ()), a, c, (((), (), (), ()), ()), C.1, C.2, ((if ok = true then 0 else 0 : Nat), (), (), (), ()), (hn s (but : Int)), (), (((hn s (but : Int)), ()), ()), ((), (), (), ()), (hn s (but : Int)), (), r, r, ((), (), (), (), (), (), ()), r, (pairsP s r), g, ((), (), (), (), (), (), (), (), ()), ())
def pr_23 (s : Su) (but : Nat) (a c : Int) (ok : Bool) (C : (Int × Int)) (r l : List Int) : R23s134 := ((ok, ()), a, c, (((), (), (), ()), ()), C.1, C.2, ((if ok = true then 0 else 0 : Nat), (), (), (), ()), (hn s (but : Int)), (), (((hn s (but : Int)), ()), ()), ((if ok = true then 0 else 1 : Nat), (), (), (), ()), (hn s (but : Int)), (), r, l, ((), (), (), (), (), (), ()), ())
noncomputable def g0_23 (s : Su) (but : Nat) (a c : Int) (r : List Int) (i : Nat) (C : (Int × Int)) (g : List Int) (y : R23s124) : Prop := Ev fun k => T23s124_0 (i : Int) a c C.1 C.2 (hn s (but : Int)) (hn s (but : Int)) (hn s (but : Int)) r r r (pairsP s r) g k = some y
noncomputable def g1_23 (s : Su) (but : Nat) (a c : Int) (r : List Int) (i k0 : Nat) (C : (Int × Int)) (g : List Int) (y : R23s124) : Prop := Ev fun k => T23s124_1 (i : Int) ((i + 1 : Nat) : Int) (k0 : Int) a c C.1 C.2 (hn s (but : Int)) (hn s (but : Int)) (hn s (but : Int)) r r r (pairsP s r) g k = some y
noncomputable def r0_23 (s : Su) (but : Nat) (a c : Int) (i : Nat) (m : Int) (C : (Int × Int)) (r l : List Int) (y : R23s134) : Prop := Ev fun k => T23s134_0 (i : Int) m a c C.1 C.2 (hn s (but : Int)) (hn s (but : Int)) (hn s (but : Int)) r l k = some y
noncomputable def r1_23 (s : Su) (but : Nat) (a c : Int) (i : Nat) (m v : Int) (C : (Int × Int)) (r l : List Int) (y : R23s134) : Prop := Ev fun k => T23s134_1 (i : Int) m v a c C.1 C.2 (hn s (but : Int)) (hn s (but : Int)) (hn s (but : Int)) r l k = some y
section
variable {s : Su} {but : Nat} {a c : Int} {r l g : List Int} {C : (Int × Int)} {y : R23s124} {z : R23s134}
theorem gnode_23 {i : Nat} (hs : VS s) (hi : i < s.2.2.1.length) (h : g1_23 s but a c r i 0 C g y) : g0_23 s but a c r i C g y := by
 have h5 := hs.n5
 refine R23s124_0 _ _ _ _ _ _ _ _ _ _ _ _ _ ?_
 simp only [Option.bind_some]
 rw [bqf (show (i : Int) ≠ (s.2.2.1.length : Int) by omega), wrap_succ (n := i) (by omega)]
 exact h
theorem gnot_23 (hs : VS s) (hb : but < 1000000000000) (h : soP s but.testBit g = false) : g0_23 s but a c r s.2.2.1.length C g (pg_23 s but a c r true C g) := by
 refine R23s124_0 _ _ _ _ _ _ _ _ _ _ _ _ _ ?_
 simp only [Option.bind_some]
 rw [bq rfl, L125 hs hb, h]
 exact Ev.all fun _ => rfl
theorem gdone_23 {i : Nat} : g1_23 s but a c r i (i + 1) C g (pg_23 s but a c r true C g) := by
 refine R23s124_1 _ _ _ _ _ _ _ _ _ _ _ _ _ _ _ ?_
 rw [dec_f (show ¬ ((i + 1 : Nat) : Int) < ((i + 1 : Nat) : Int) by omega)]
 exact Ev.all fun _ => rfl
theorem gskip_23 {i k : Nat} (hs : VS s) (hi : i < s.2.2.1.length) (hk : k ≤ i) (ho : okP s r g i k = false) (h : g1_23 s but a c r i (k + 1) C g y) : g1_23 s but a c r i k C g y := by
 have h5 := hs.n5
 have hlt : k < i := by
  rcases Nat.lt_or_eq_of_le hk with h | rfl
  ·exact h
  ·rw [okP_self] at ho; cases ho
 rw [okP_lt hlt] at ho
 refine R23s124_1 _ _ _ _ _ _ _ _ _ _ _ _ _ _ _ ?_
 rw [dec_t (show (k : Int) < ((i + 1 : Nat) : Int) by omega), dec_t (show (k : Int) < (i : Int) by omega), dec_t (show (0 : Int) ≤ (k : Int) by omega), dec_t (show (k : Int) < 5 by omega), dec_t (show Int.toNat (k : Int) < 5 by omega), wrap_succ (n := k) (by omega), Int.toNat_natCast, L121 hs (but : Int) r g i k hi]
 simp only [Bool.and_self, cond_true, Option.bind_some]
 cases hq : (g.getD k 0 == (k : Int)) with
 | false =>
  rw [show (g.getD k 0 != (k : Int)) = true by simpa using hq]
  exact h
 | true =>
  rw [hq, Bool.true_and] at ho
  rw [show (g.getD k 0 != (k : Int)) = false by simpa using hq, ho]
  exact h
theorem gcall_23 {i k : Nat} {b : Bool} {C' : (Int × Int)} {g' : List Int} (hs : VS s) (hi : i < s.2.2.1.length) (hk : k ≤ i) (ho : okP s r g i k = true) (h : g0_23 s but a c r (i + 1) C (g.set i (k : Int)) (pg_23 s but a c r b C' g')) (ht : b = true → g1_23 s but a c r i (k + 1) C' g' y) (hf : b = false → y = pg_23 s but a c r false C' g') : g1_23 s but a c r i k C g y := by
 have h5 := hs.n5
 refine R23s124_1 _ _ _ _ _ _ _ _ _ _ _ _ _ _ _ ?_
 rw [dec_t (show (k : Int) < ((i + 1 : Nat) : Int) by omega), dec_t (show (0 : Int) ≤ (i : Int) by omega), dec_t (show (i : Int) < 5 by omega), dec_t (show Int.toNat (i : Int) < 5 by omega), wrap_succ (n := i) (by omega), wrap_succ (n := k) (by omega), Int.toNat_natCast, Int.toNat_natCast]
 simp only [Bool.and_self, cond_true]
 rcases Nat.lt_or_eq_of_le hk with hlt | rfl
 ·rw [okP_lt hlt, Bool.and_eq_true] at ho
  have e1 : (g.getD k 0 != (k : Int)) = false := by simpa using ho.1
  rw [dec_t (show (k : Int) < (i : Int) by omega), dec_t (show (0 : Int) ≤ (k : Int) by omega), dec_t (show (k : Int) < 5 by omega), dec_t (show k < 5 by omega), e1, L121 hs (but : Int) r g i k hi, ho.2]
  simp only [Bool.and_self, cond_true, cond_false, Option.bind_some, Bool.not_true]
  refine Ev.sub h ?_
  cases b with
  | true => exact ht rfl
  | false =>
   rw [hf rfl]
   exact Ev.all fun _ => rfl
 ·rw [dec_f (show ¬ (k : Int) < (k : Int) by omega)]
  simp only [cond_false]
  refine Ev.sub h ?_
  cases b with
  | true => exact ht rfl
  | false =>
   rw [hf rfl]
   exact Ev.all fun _ => rfl
theorem rnode_23 {i : Nat} {m : Int} (hi : i < s.1.length) (h : r1_23 s but a c i m (s.1.getD i sp0).1 C r l z) : r0_23 s but a c i m C r l z := by
 refine R23s134_0 _ _ _ _ _ _ _ _ _ _ _ ?_
 simp only [Option.bind_some]
 rw [bqf (show (i : Int) ≠ (s.1.length : Int) by omega), dec_t (show (i : Int) < (s.1.length : Int) by omega), dec_t (show (0 : Int) ≤ (i : Int) by omega), Int.toNat_natCast]
 simp only [Bool.and_self, cond_true, cond_false]
 exact h
theorem rdone_23 {i : Nat} {m v : Int} (hi : i < s.1.length) (hv : min m (s.1.getD i sp0).2.1 < v) : r1_23 s but a c i m v C r l (pr_23 s but a c true C r l) := by
 refine R23s134_1 _ _ _ _ _ _ _ _ _ _ _ _ ?_
 simp only [Option.bind_some]
 rw [dec_t (show (i : Int) < (s.1.length : Int) by omega), dec_t (show (0 : Int) ≤ (i : Int) by omega), Int.toNat_natCast, show s.1.getD i (0, 0, ()) = s.1.getD i sp0 from rfl, if_min, dec_f (show ¬ v ≤ min m (s.1.getD i sp0).2.1 by omega)]
 simp only [Bool.and_self, cond_true, cond_false]
 exact Ev.all fun _ => rfl
theorem rcall_23 {i : Nat} {m v : Int} {b : Bool} {C' : (Int × Int)} {r' l' : List Int} (hs : VS s) (hi : i < s.1.length) (v0 : 0 ≤ v) (hv : v ≤ min m (s.1.getD i sp0).2.1) (v1 : v ≤ 16) (h : r0_23 s but a c (i + 1) v C (r.set i v) l (pr_23 s but a c b C' r' l')) (ht : b = true → r1_23 s but a c i m (v + 1) C' r' l' z) (hf : b = false → z = pr_23 s but a c false C' r' l') : r1_23 s but a c i m v C r l z := by
 have h3 := hs.b3
 refine R23s134_1 _ _ _ _ _ _ _ _ _ _ _ _ ?_
 simp only [Option.bind_some]
 rw [dec_t (show (i : Int) < (s.1.length : Int) by omega), dec_t (show (0 : Int) ≤ (i : Int) by omega), Int.toNat_natCast, show s.1.getD i (0, 0, ()) = s.1.getD i sp0 from rfl, if_min, dec_t hv, dec_t (show (i : Int) < 3 by omega), dec_t (show i < 3 by omega), wrap_succ (n := i) (by omega), wrap_id (x := v + 1) (by omega) (by omega)]
 simp only [Bool.and_self, cond_true]
 refine Ev.sub h ?_
 cases b with
 | true => exact ht rfl
 | false =>
  rw [hf rfl]
  exact Ev.all fun _ => rfl
end
section
variable (s : Su) (but : Nat) (a c : Int) (hs : VS s) (hb : but < 1000000000000) (step : (Int × Int) → List Int × List Int → (Int × Int) × Bool)
 (hfin : ∀ {C : (Int × Int)} {r g : List Int}, Good 3 16 r → Good 5 4 g → soP s but.testBit g = true → g0_23 s but a c r s.2.2.1.length C g (pg_23 s but a c r (step C (r, g)).2 (step C (r, g)).1 g))
 include hs hb hfin
noncomputable def dg_23 {r : List Int} (hr : Good 3 16 r) : DfsG ((Int × Int)) (R23s124) s.2.2.1.length (okP s r) (stepG s but step r) where
 A0 := g0_23 s but a c r
 A1 := g1_23 s but a c r
 P := pg_23 s but a c r
 leaf := fun {C g} hg => by
  unfold stepG
  cases h : soP s but.testBit g with
  | true => rw [if_pos rfl]; exact hfin hr hg h
  | false => rw [if_neg (by decide)]; exact gnot_23 hs hb h
 node := gnode_23 hs
 done := fun _ => gdone_23
 skip := fun h1 h2 _ => gskip_23 hs h1 h2
 call := fun h1 h2 _ => gcall_23 hs h1 h2
theorem rleaf_23 {m : Int} {C : (Int × Int)} {r l : List Int} (hne : r ≠ l) (hr : Good 3 16 r) : r0_23 s but a c s.1.length m C r l (pr_23 s but a c (stepR s but step C r).2 (stepR s but step C r).1 r r) := by
 obtain ⟨g', hg', _, _, h⟩ := (dg_23 s but a c hs hb step hfin hr).run hs.n5 (okP_take s r) s.2.2.1.length 0 [] C (List.replicate 5 0) (by omega) rfl ⟨by simp, fun x hx => by rw [List.mem_replicate] at hx; omega⟩ rfl (by rw [List.drop_replicate])
 refine R23s134_0 _ _ _ _ _ _ _ _ _ _ _ ?_
 simp only [Option.bind_some]
 rw [bq rfl, eqArr3, dec_f hne, L123 hs (but : Int) hr]
 simp only [cond_true, cond_false, Option.bind_some]
 have e := gsub_eq h
 unfold stepR
 rw [show partsP s r = gExt (okP s r) s.2.2.1.length [] from rfl]
 generalize foldT (stepG s but step r) (gExt (okP s r) s.2.2.1.length []) C = q at *
 obtain ⟨C', b⟩ := q
 refine Ev.all fun _ => ?_
 refine (congrArg (fun o => Option.bind o _) e).trans ?_
 cases b <;> rfl
theorem run_23 (C : (Int × Int)) : ∃ r' l', Good 3 16 r' ∧ r0_23 s but a c 0 16 C (List.replicate 3 0) (-1 :: List.replicate 2 0) (pr_23 s but a c (foldT step (truthsP s but.testBit) C).2 (foldT step (truthsP s but.testBit) C).1 r' l') := by
 have := (show DfsR ((Int × Int)) (R23s134) s (stepR s but step) from
  { A0 := r0_23 s but a c, A1 := r1_23 s but a c, P := pr_23 s but a c, leaf := fun h1 h2 => rleaf_23 s but a c hs hb step hfin h1 h2, node := rnode_23, done := rdone_23, call := fun h1 h2 h3 h4 _ h5 h6 h7 => rcall_23 hs h1 h2 h3 h4 h5 h6 h7 }).all hs C
 rw [fold_truths] at this
 exact this
end
def pg_26 (s : Su) (but : Nat) (r : List Int) (ok : Bool) (C : Hl) (g : List Int) : R26s124 := ((ok, ()), ((0, 0, ()) : Sp), (hn s (but : Int)), ((), (), ()), ((0, 0, ()) : Sp), C, ((if ok = true then 0 else 0 : Nat), (), (), ()), (hn s (but : Int)), (), (((hn s (but : Int)), ()), ()), ((), (), (), ()), (hn s (but : Int)), (), r, r, ((), (), (), (), (), (), ()), r, (pairsP s r), g, ((), (), (), (), (), (), (), (), ()), ())
def pr_26 (s : Su) (but : Nat) (ok : Bool) (C : Hl) (r l : List Int) : R26s134 := ((ok, ()), ((0, 0, ()) : Sp), (hn s (but : Int)), ((), (), ()), ((0, 0, ()) : Sp), C, ((if ok = true then 0 else 0 : Nat), (), (), ()), (hn s (but : Int)), (), (((hn s (but : Int)), ()), ()), ((if ok = true then 0 else 1 : Nat), (), (), (), ()), (hn s (but : Int)), (), r, l, ((), (), (), (), (), (), ()), ())
noncomputable def g0_26 (s : Su) (but : Nat) (r : List Int) (i : Nat) (C : Hl) (g : List Int) (y : R26s124) : Prop := Ev fun k => T26s124_0 (i : Int) ((0, 0, ()) : Sp) (hn s (but : Int)) ((0, 0, ()) : Sp) C (hn s (but : Int)) (hn s (but : Int)) (hn s (but : Int)) r r r (pairsP s r) g k = some y
noncomputable def g1_26 (s : Su) (but : Nat) (r : List Int) (i k0 : Nat) (C : Hl) (g : List Int) (y : R26s124) : Prop := Ev fun k => T26s124_1 (i : Int) ((i + 1 : Nat) : Int) (k0 : Int) ((0, 0, ()) : Sp) (hn s (but : Int)) ((0, 0, ()) : Sp) C (hn s (but : Int)) (hn s (but : Int)) (hn s (but : Int)) r r r (pairsP s r) g k = some y
noncomputable def r0_26 (s : Su) (but : Nat) (i : Nat) (m : Int) (C : Hl) (r l : List Int) (y : R26s134) : Prop := Ev fun k => T26s134_0 (i : Int) m ((0, 0, ()) : Sp) (hn s (but : Int)) ((0, 0, ()) : Sp) C (hn s (but : Int)) (hn s (but : Int)) (hn s (but : Int)) r l k = some y
noncomputable def r1_26 (s : Su) (but : Nat) (i : Nat) (m v : Int) (C : Hl) (r l : List Int) (y : R26s134) : Prop := Ev fun k => T26s134_1 (i : Int) m v ((0, 0, ()) : Sp) (hn s (but : Int)) ((0, 0, ()) : Sp) C (hn s (but : Int)) (hn s (but : Int)) (hn s (but : Int)) r l k = some y
section
variable {s : Su} {but : Nat} {r l g : List Int} {C : Hl} {y : R26s124} {z : R26s134}
theorem gnode_26 {i : Nat} (hs : VS s) (hi : i < s.2.2.1.length) (h : g1_26 s but r i 0 C g y) : g0_26 s but r i C g y := by
 have h5 := hs.n5
 refine R26s124_0 _ _ _ _ _ _ _ _ _ _ _ _ _ ?_
 simp only [Option.bind_some]
 rw [bqf (show (i : Int) ≠ (s.2.2.1.length : Int) by omega), wrap_succ (n := i) (by omega)]
 exact h
theorem gnot_26 (hs : VS s) (hb : but < 1000000000000) (h : soP s but.testBit g = false) : g0_26 s but r s.2.2.1.length C g (pg_26 s but r true C g) := by
 refine R26s124_0 _ _ _ _ _ _ _ _ _ _ _ _ _ ?_
 simp only [Option.bind_some]
 rw [bq rfl, L125 hs hb, h]
 exact Ev.all fun _ => rfl
theorem gdone_26 {i : Nat} : g1_26 s but r i (i + 1) C g (pg_26 s but r true C g) := by
 refine R26s124_1 _ _ _ _ _ _ _ _ _ _ _ _ _ _ _ ?_
 rw [dec_f (show ¬ ((i + 1 : Nat) : Int) < ((i + 1 : Nat) : Int) by omega)]
 exact Ev.all fun _ => rfl
theorem gskip_26 {i k : Nat} (hs : VS s) (hi : i < s.2.2.1.length) (hk : k ≤ i) (ho : okP s r g i k = false) (h : g1_26 s but r i (k + 1) C g y) : g1_26 s but r i k C g y := by
 have h5 := hs.n5
 have hlt : k < i := by
  rcases Nat.lt_or_eq_of_le hk with h | rfl
  ·exact h
  ·rw [okP_self] at ho; cases ho
 rw [okP_lt hlt] at ho
 refine R26s124_1 _ _ _ _ _ _ _ _ _ _ _ _ _ _ _ ?_
 rw [dec_t (show (k : Int) < ((i + 1 : Nat) : Int) by omega), dec_t (show (k : Int) < (i : Int) by omega), dec_t (show (0 : Int) ≤ (k : Int) by omega), dec_t (show (k : Int) < 5 by omega), dec_t (show Int.toNat (k : Int) < 5 by omega), wrap_succ (n := k) (by omega), Int.toNat_natCast, L121 hs (but : Int) r g i k hi]
 simp only [Bool.and_self, cond_true, Option.bind_some]
 cases hq : (g.getD k 0 == (k : Int)) with
 | false =>
  rw [show (g.getD k 0 != (k : Int)) = true by simpa using hq]
  exact h
 | true =>
  rw [hq, Bool.true_and] at ho
  rw [show (g.getD k 0 != (k : Int)) = false by simpa using hq, ho]
  exact h
theorem gcall_26 {i k : Nat} {b : Bool} {C' : Hl} {g' : List Int} (hs : VS s) (hi : i < s.2.2.1.length) (hk : k ≤ i) (ho : okP s r g i k = true) (h : g0_26 s but r (i + 1) C (g.set i (k : Int)) (pg_26 s but r b C' g')) (ht : b = true → g1_26 s but r i (k + 1) C' g' y) (hf : b = false → y = pg_26 s but r false C' g') : g1_26 s but r i k C g y := by
 have h5 := hs.n5
 refine R26s124_1 _ _ _ _ _ _ _ _ _ _ _ _ _ _ _ ?_
 rw [dec_t (show (k : Int) < ((i + 1 : Nat) : Int) by omega), dec_t (show (0 : Int) ≤ (i : Int) by omega), dec_t (show (i : Int) < 5 by omega), dec_t (show Int.toNat (i : Int) < 5 by omega), wrap_succ (n := i) (by omega), wrap_succ (n := k) (by omega), Int.toNat_natCast, Int.toNat_natCast]
 simp only [Bool.and_self, cond_true]
 rcases Nat.lt_or_eq_of_le hk with hlt | rfl
 ·rw [okP_lt hlt, Bool.and_eq_true] at ho
  have e1 : (g.getD k 0 != (k : Int)) = false := by simpa using ho.1
  rw [dec_t (show (k : Int) < (i : Int) by omega), dec_t (show (0 : Int) ≤ (k : Int) by omega), dec_t (show (k : Int) < 5 by omega), dec_t (show k < 5 by omega), e1, L121 hs (but : Int) r g i k hi, ho.2]
  simp only [Bool.and_self, cond_true, cond_false, Option.bind_some, Bool.not_true]
  refine Ev.sub h ?_
  cases b with
  | true => exact ht rfl
  | false =>
   rw [hf rfl]
   exact Ev.all fun _ => rfl
 ·rw [dec_f (show ¬ (k : Int) < (k : Int) by omega)]
  simp only [cond_false]
  refine Ev.sub h ?_
  cases b with
  | true => exact ht rfl
  | false =>
   rw [hf rfl]
   exact Ev.all fun _ => rfl
theorem rnode_26 {i : Nat} {m : Int} (hi : i < s.1.length) (h : r1_26 s but i m (s.1.getD i sp0).1 C r l z) : r0_26 s but i m C r l z := by
 refine R26s134_0 _ _ _ _ _ _ _ _ _ _ _ ?_
 simp only [Option.bind_some]
 rw [bqf (show (i : Int) ≠ (s.1.length : Int) by omega), dec_t (show (i : Int) < (s.1.length : Int) by omega), dec_t (show (0 : Int) ≤ (i : Int) by omega), Int.toNat_natCast]
 simp only [Bool.and_self, cond_true, cond_false]
 exact h
theorem rdone_26 {i : Nat} {m v : Int} (hi : i < s.1.length) (hv : min m (s.1.getD i sp0).2.1 < v) : r1_26 s but i m v C r l (pr_26 s but true C r l) := by
 refine R26s134_1 _ _ _ _ _ _ _ _ _ _ _ _ ?_
 simp only [Option.bind_some]
 rw [dec_t (show (i : Int) < (s.1.length : Int) by omega), dec_t (show (0 : Int) ≤ (i : Int) by omega), Int.toNat_natCast, show s.1.getD i (0, 0, ()) = s.1.getD i sp0 from rfl, if_min, dec_f (show ¬ v ≤ min m (s.1.getD i sp0).2.1 by omega)]
 simp only [Bool.and_self, cond_true, cond_false]
 exact Ev.all fun _ => rfl
theorem rcall_26 {i : Nat} {m v : Int} {b : Bool} {C' : Hl} {r' l' : List Int} (hs : VS s) (hi : i < s.1.length) (v0 : 0 ≤ v) (hv : v ≤ min m (s.1.getD i sp0).2.1) (v1 : v ≤ 16) (h : r0_26 s but (i + 1) v C (r.set i v) l (pr_26 s but b C' r' l')) (ht : b = true → r1_26 s but i m (v + 1) C' r' l' z) (hf : b = false → z = pr_26 s but false C' r' l') : r1_26 s but i m v C r l z := by
 have h3 := hs.b3
 refine R26s134_1 _ _ _ _ _ _ _ _ _ _ _ _ ?_
 simp only [Option.bind_some]
 rw [dec_t (show (i : Int) < (s.1.length : Int) by omega), dec_t (show (0 : Int) ≤ (i : Int) by omega), Int.toNat_natCast, show s.1.getD i (0, 0, ()) = s.1.getD i sp0 from rfl, if_min, dec_t hv, dec_t (show (i : Int) < 3 by omega), dec_t (show i < 3 by omega), wrap_succ (n := i) (by omega), wrap_id (x := v + 1) (by omega) (by omega)]
 simp only [Bool.and_self, cond_true]
 refine Ev.sub h ?_
 cases b with
 | true => exact ht rfl
 | false =>
  rw [hf rfl]
  exact Ev.all fun _ => rfl
end
section
variable (s : Su) (but : Nat) (hs : VS s) (hb : but < 1000000000000) (step : Hl → List Int × List Int → Hl × Bool)
 (hfin : ∀ {C : Hl} {r g : List Int}, Good 3 16 r → Good 5 4 g → soP s but.testBit g = true → g0_26 s but r s.2.2.1.length C g (pg_26 s but r (step C (r, g)).2 (step C (r, g)).1 g))
 include hs hb hfin
noncomputable def dg_26 {r : List Int} (hr : Good 3 16 r) : DfsG (Hl) (R26s124) s.2.2.1.length (okP s r) (stepG s but step r) where
 A0 := g0_26 s but r
 A1 := g1_26 s but r
 P := pg_26 s but r
 leaf := fun {C g} hg => by
  unfold stepG
  cases h : soP s but.testBit g with
  | true => rw [if_pos rfl]; exact hfin hr hg h
  | false => rw [if_neg (by decide)]; exact gnot_26 hs hb h
 node := gnode_26 hs
 done := fun _ => gdone_26
 skip := fun h1 h2 _ => gskip_26 hs h1 h2
 call := fun h1 h2 _ => gcall_26 hs h1 h2
theorem rleaf_26 {m : Int} {C : Hl} {r l : List Int} (hne : r ≠ l) (hr : Good 3 16 r) : r0_26 s but s.1.length m C r l (pr_26 s but (stepR s but step C r).2 (stepR s but step C r).1 r r) := by
 obtain ⟨g', hg', _, _, h⟩ := (dg_26 s but hs hb step hfin hr).run hs.n5 (okP_take s r) s.2.2.1.length 0 [] C (List.replicate 5 0) (by omega) rfl ⟨by simp, fun x hx => by rw [List.mem_replicate] at hx; omega⟩ rfl (by rw [List.drop_replicate])
 refine R26s134_0 _ _ _ _ _ _ _ _ _ _ _ ?_
 simp only [Option.bind_some]
 rw [bq rfl, eqArr3, dec_f hne, L123 hs (but : Int) hr]
 simp only [cond_true, cond_false, Option.bind_some]
 have e := gsub_eq h
 unfold stepR
 rw [show partsP s r = gExt (okP s r) s.2.2.1.length [] from rfl]
 generalize foldT (stepG s but step r) (gExt (okP s r) s.2.2.1.length []) C = q at *
 obtain ⟨C', b⟩ := q
 refine Ev.all fun _ => ?_
 refine (congrArg (fun o => Option.bind o _) e).trans ?_
 cases b <;> rfl
theorem run_26 (C : Hl) : ∃ r' l', Good 3 16 r' ∧ r0_26 s but 0 16 C (List.replicate 3 0) (-1 :: List.replicate 2 0) (pr_26 s but (foldT step (truthsP s but.testBit) C).2 (foldT step (truthsP s but.testBit) C).1 r' l') := by
 have := (show DfsR (Hl) (R26s134) s (stepR s but step) from
  { A0 := r0_26 s but, A1 := r1_26 s but, P := pr_26 s but, leaf := fun h1 h2 => rleaf_26 s but hs hb step hfin h1 h2, node := rnode_26, done := rdone_26, call := fun h1 h2 h3 h4 _ h5 h6 h7 => rcall_26 hs h1 h2 h3 h4 h5 h6 h7 }).all hs C
 rw [fold_truths] at this
 exact this
end
def pg_28 (s : Su) (but : Nat) (r : List Int) (ok : Bool) (C : (List Int × Int)) (g : List Int) : R28s124 := ((ok, ()), s, (hn s (but : Int)), C.1, C.2, ((if ok = true then 0 else 0 : Nat), (), (), (), ()), (hn s (but : Int)), (), (((hn s (but : Int)), ()), ()), ((), (), (), ()), (hn s (but : Int)), (), r, r, ((), (), (), (), (), (), ()), r, (pairsP s r), g, ((), (), (), (), (), (), (), (), ()), ())
def pr_28 (s : Su) (but : Nat) (ok : Bool) (C : (List Int × Int)) (r l : List Int) : R28s134 := ((ok, ()), s, (hn s (but : Int)), C.1, C.2, ((if ok = true then 0 else 0 : Nat), (), (), (), ()), (hn s (but : Int)), (), (((hn s (but : Int)), ()), ()), ((if ok = true then 0 else 1 : Nat), (), (), (), ()), (hn s (but : Int)), (), r, l, ((), (), (), (), (), (), ()), ())
noncomputable def g0_28 (s : Su) (but : Nat) (r : List Int) (i : Nat) (C : (List Int × Int)) (g : List Int) (y : R28s124) : Prop := Ev fun k => T28s124_0 (i : Int) s (hn s (but : Int)) C.1 C.2 (hn s (but : Int)) (hn s (but : Int)) (hn s (but : Int)) r r r (pairsP s r) g k = some y
noncomputable def g1_28 (s : Su) (but : Nat) (r : List Int) (i k0 : Nat) (C : (List Int × Int)) (g : List Int) (y : R28s124) : Prop := Ev fun k => T28s124_1 (i : Int) ((i + 1 : Nat) : Int) (k0 : Int) s (hn s (but : Int)) C.1 C.2 (hn s (but : Int)) (hn s (but : Int)) (hn s (but : Int)) r r r (pairsP s r) g k = some y
noncomputable def r0_28 (s : Su) (but : Nat) (i : Nat) (m : Int) (C : (List Int × Int)) (r l : List Int) (y : R28s134) : Prop := Ev fun k => T28s134_0 (i : Int) m s (hn s (but : Int)) C.1 C.2 (hn s (but : Int)) (hn s (but : Int)) (hn s (but : Int)) r l k = some y
noncomputable def r1_28 (s : Su) (but : Nat) (i : Nat) (m v : Int) (C : (List Int × Int)) (r l : List Int) (y : R28s134) : Prop := Ev fun k => T28s134_1 (i : Int) m v s (hn s (but : Int)) C.1 C.2 (hn s (but : Int)) (hn s (but : Int)) (hn s (but : Int)) r l k = some y
section
variable {s : Su} {but : Nat} {r l g : List Int} {C : (List Int × Int)} {y : R28s124} {z : R28s134}
theorem gnode_28 {i : Nat} (hs : VS s) (hi : i < s.2.2.1.length) (h : g1_28 s but r i 0 C g y) : g0_28 s but r i C g y := by
 have h5 := hs.n5
 refine R28s124_0 _ _ _ _ _ _ _ _ _ _ _ _ _ ?_
 simp only [Option.bind_some]
 rw [bqf (show (i : Int) ≠ (s.2.2.1.length : Int) by omega), wrap_succ (n := i) (by omega)]
 exact h
theorem gnot_28 (hs : VS s) (hb : but < 1000000000000) (h : soP s but.testBit g = false) : g0_28 s but r s.2.2.1.length C g (pg_28 s but r true C g) := by
 refine R28s124_0 _ _ _ _ _ _ _ _ _ _ _ _ _ ?_
 simp only [Option.bind_some]
 rw [bq rfl, L125 hs hb, h]
 exact Ev.all fun _ => rfl
theorem gdone_28 {i : Nat} : g1_28 s but r i (i + 1) C g (pg_28 s but r true C g) := by
 refine R28s124_1 _ _ _ _ _ _ _ _ _ _ _ _ _ _ _ ?_
 rw [dec_f (show ¬ ((i + 1 : Nat) : Int) < ((i + 1 : Nat) : Int) by omega)]
 exact Ev.all fun _ => rfl
theorem gskip_28 {i k : Nat} (hs : VS s) (hi : i < s.2.2.1.length) (hk : k ≤ i) (ho : okP s r g i k = false) (h : g1_28 s but r i (k + 1) C g y) : g1_28 s but r i k C g y := by
 have h5 := hs.n5
 have hlt : k < i := by
  rcases Nat.lt_or_eq_of_le hk with h | rfl
  ·exact h
  ·rw [okP_self] at ho; cases ho
 rw [okP_lt hlt] at ho
 refine R28s124_1 _ _ _ _ _ _ _ _ _ _ _ _ _ _ _ ?_
 rw [dec_t (show (k : Int) < ((i + 1 : Nat) : Int) by omega), dec_t (show (k : Int) < (i : Int) by omega), dec_t (show (0 : Int) ≤ (k : Int) by omega), dec_t (show (k : Int) < 5 by omega), dec_t (show Int.toNat (k : Int) < 5 by omega), wrap_succ (n := k) (by omega), Int.toNat_natCast, L121 hs (but : Int) r g i k hi]
 simp only [Bool.and_self, cond_true, Option.bind_some]
 cases hq : (g.getD k 0 == (k : Int)) with
 | false =>
  rw [show (g.getD k 0 != (k : Int)) = true by simpa using hq]
  exact h
 | true =>
  rw [hq, Bool.true_and] at ho
  rw [show (g.getD k 0 != (k : Int)) = false by simpa using hq, ho]
  exact h
theorem gcall_28 {i k : Nat} {b : Bool} {C' : (List Int × Int)} {g' : List Int} (hs : VS s) (hi : i < s.2.2.1.length) (hk : k ≤ i) (ho : okP s r g i k = true) (h : g0_28 s but r (i + 1) C (g.set i (k : Int)) (pg_28 s but r b C' g')) (ht : b = true → g1_28 s but r i (k + 1) C' g' y) (hf : b = false → y = pg_28 s but r false C' g') : g1_28 s but r i k C g y := by
 have h5 := hs.n5
 refine R28s124_1 _ _ _ _ _ _ _ _ _ _ _ _ _ _ _ ?_
 rw [dec_t (show (k : Int) < ((i + 1 : Nat) : Int) by omega), dec_t (show (0 : Int) ≤ (i : Int) by omega), dec_t (show (i : Int) < 5 by omega), dec_t (show Int.toNat (i : Int) < 5 by omega), wrap_succ (n := i) (by omega), wrap_succ (n := k) (by omega), Int.toNat_natCast, Int.toNat_natCast]
 simp only [Bool.and_self, cond_true]
 rcases Nat.lt_or_eq_of_le hk with hlt | rfl
 ·rw [okP_lt hlt, Bool.and_eq_true] at ho
  have e1 : (g.getD k 0 != (k : Int)) = false := by simpa using ho.1
  rw [dec_t (show (k : Int) < (i : Int) by omega), dec_t (show (0 : Int) ≤ (k : Int) by omega), dec_t (show (k : Int) < 5 by omega), dec_t (show k < 5 by omega), e1, L121 hs (but : Int) r g i k hi, ho.2]
  simp only [Bool.and_self, cond_true, cond_false, Option.bind_some, Bool.not_true]
  refine Ev.sub h ?_
  cases b with
  | true => exact ht rfl
  | false =>
   rw [hf rfl]
   exact Ev.all fun _ => rfl
 ·rw [dec_f (show ¬ (k : Int) < (k : Int) by omega)]
  simp only [cond_false]
  refine Ev.sub h ?_
  cases b with
  | true => exact ht rfl
  | false =>
   rw [hf rfl]
   exact Ev.all fun _ => rfl
theorem rnode_28 {i : Nat} {m : Int} (hi : i < s.1.length) (h : r1_28 s but i m (s.1.getD i sp0).1 C r l z) : r0_28 s but i m C r l z := by
 refine R28s134_0 _ _ _ _ _ _ _ _ _ _ _ ?_
 simp only [Option.bind_some]
 rw [bqf (show (i : Int) ≠ (s.1.length : Int) by omega), dec_t (show (i : Int) < (s.1.length : Int) by omega), dec_t (show (0 : Int) ≤ (i : Int) by omega), Int.toNat_natCast]
 simp only [Bool.and_self, cond_true, cond_false]
 exact h
theorem rdone_28 {i : Nat} {m v : Int} (hi : i < s.1.length) (hv : min m (s.1.getD i sp0).2.1 < v) : r1_28 s but i m v C r l (pr_28 s but true C r l) := by
 refine R28s134_1 _ _ _ _ _ _ _ _ _ _ _ _ ?_
 simp only [Option.bind_some]
 rw [dec_t (show (i : Int) < (s.1.length : Int) by omega), dec_t (show (0 : Int) ≤ (i : Int) by omega), Int.toNat_natCast, show s.1.getD i (0, 0, ()) = s.1.getD i sp0 from rfl, if_min, dec_f (show ¬ v ≤ min m (s.1.getD i sp0).2.1 by omega)]
 simp only [Bool.and_self, cond_true, cond_false]
 exact Ev.all fun _ => rfl
theorem rcall_28 {i : Nat} {m v : Int} {b : Bool} {C' : (List Int × Int)} {r' l' : List Int} (hs : VS s) (hi : i < s.1.length) (v0 : 0 ≤ v) (hv : v ≤ min m (s.1.getD i sp0).2.1) (v1 : v ≤ 16) (h : r0_28 s but (i + 1) v C (r.set i v) l (pr_28 s but b C' r' l')) (ht : b = true → r1_28 s but i m (v + 1) C' r' l' z) (hf : b = false → z = pr_28 s but false C' r' l') : r1_28 s but i m v C r l z := by
 have h3 := hs.b3
 refine R28s134_1 _ _ _ _ _ _ _ _ _ _ _ _ ?_
 simp only [Option.bind_some]
 rw [dec_t (show (i : Int) < (s.1.length : Int) by omega), dec_t (show (0 : Int) ≤ (i : Int) by omega), Int.toNat_natCast, show s.1.getD i (0, 0, ()) = s.1.getD i sp0 from rfl, if_min, dec_t hv, dec_t (show (i : Int) < 3 by omega), dec_t (show i < 3 by omega), wrap_succ (n := i) (by omega), wrap_id (x := v + 1) (by omega) (by omega)]
 simp only [Bool.and_self, cond_true]
 refine Ev.sub h ?_
 cases b with
 | true => exact ht rfl
 | false =>
  rw [hf rfl]
  exact Ev.all fun _ => rfl
end
section
variable (s : Su) (but : Nat) (hs : VS s) (hb : but < 1000000000000) (step : (List Int × Int) → List Int × List Int → (List Int × Int) × Bool)
 (hfin : ∀ {C : (List Int × Int)} {r g : List Int}, Good 3 16 r → Good 5 4 g → soP s but.testBit g = true → g0_28 s but r s.2.2.1.length C g (pg_28 s but r (step C (r, g)).2 (step C (r, g)).1 g))
 include hs hb hfin
noncomputable def dg_28 {r : List Int} (hr : Good 3 16 r) : DfsG ((List Int × Int)) (R28s124) s.2.2.1.length (okP s r) (stepG s but step r) where
 A0 := g0_28 s but r
 A1 := g1_28 s but r
 P := pg_28 s but r
 leaf := fun {C g} hg => by
  unfold stepG
  cases h : soP s but.testBit g with
  | true => rw [if_pos rfl]; exact hfin hr hg h
  | false => rw [if_neg (by decide)]; exact gnot_28 hs hb h
 node := gnode_28 hs
 done := fun _ => gdone_28
 skip := fun h1 h2 _ => gskip_28 hs h1 h2
 call := fun h1 h2 _ => gcall_28 hs h1 h2
theorem rleaf_28 {m : Int} {C : (List Int × Int)} {r l : List Int} (hne : r ≠ l) (hr : Good 3 16 r) : r0_28 s but s.1.length m C r l (pr_28 s but (stepR s but step C r).2 (stepR s but step C r).1 r r) := by
 obtain ⟨g', hg', _, _, h⟩ := (dg_28 s but hs hb step hfin hr).run hs.n5 (okP_take s r) s.2.2.1.length 0 [] C (List.replicate 5 0) (by omega) rfl ⟨by simp, fun x hx => by rw [List.mem_replicate] at hx; omega⟩ rfl (by rw [List.drop_replicate])
 refine R28s134_0 _ _ _ _ _ _ _ _ _ _ _ ?_
 simp only [Option.bind_some]
 rw [bq rfl, eqArr3, dec_f hne, L123 hs (but : Int) hr]
 simp only [cond_true, cond_false, Option.bind_some]
 have e := gsub_eq h
 unfold stepR
 rw [show partsP s r = gExt (okP s r) s.2.2.1.length [] from rfl]
 generalize foldT (stepG s but step r) (gExt (okP s r) s.2.2.1.length []) C = q at *
 obtain ⟨C', b⟩ := q
 refine Ev.all fun _ => ?_
 refine (congrArg (fun o => Option.bind o _) e).trans ?_
 cases b <;> rfl
theorem run_28 (C : (List Int × Int)) : ∃ r' l', Good 3 16 r' ∧ r0_28 s but 0 16 C (List.replicate 3 0) (-1 :: List.replicate 2 0) (pr_28 s but (foldT step (truthsP s but.testBit) C).2 (foldT step (truthsP s but.testBit) C).1 r' l') := by
 have := (show DfsR ((List Int × Int)) (R28s134) s (stepR s but step) from
  { A0 := r0_28 s but, A1 := r1_28 s but, P := pr_28 s but, leaf := fun h1 h2 => rleaf_28 s but hs hb step hfin h1 h2, node := rnode_28, done := rdone_28, call := fun h1 h2 h3 h4 _ h5 h6 h7 => rcall_28 hs h1 h2 h3 h4 h5 h6 h7 }).all hs C
 rw [fold_truths] at this
 exact this
end
def pg_31 (s : Su) (but : Nat) (a c : Int) (r : List Int) (ok : Bool) (C : Hl) (g : List Int) : R31s124 := ((ok, ()), a, c, ((0, 0, ()) : Sp), (hn s (but : Int)), ((), (), (), (), ()), ((0, 0, ()) : Sp), C, ((if ok = true then 0 else 0 : Nat), (), (), ()), (hn s (but : Int)), (), (((hn s (but : Int)), ()), ()), ((), (), (), ()), (hn s (but : Int)), (), r, r, ((), (), (), (), (), (), ()), r, (pairsP s r), g, ((), (), (), (), (), (), (), (), ()), ())
def pr_31 (s : Su) (but : Nat) (a c : Int) (ok : Bool) (C : Hl) (r l : List Int) : R31s134 := ((ok, ()), a, c, ((0, 0, ()) : Sp), (hn s (but : Int)), ((), (), (), (), ()), ((0, 0, ()) : Sp), C, ((if ok = true then 0 else 0 : Nat), (), (), ()), (hn s (but : Int)), (), (((hn s (but : Int)), ()), ()), ((if ok = true then 0 else 1 : Nat), (), (), (), ()), (hn s (but : Int)), (), r, l, ((), (), (), (), (), (), ()), ())
noncomputable def g0_31 (s : Su) (but : Nat) (a c : Int) (r : List Int) (i : Nat) (C : Hl) (g : List Int) (y : R31s124) : Prop := Ev fun k => T31s124_0 (i : Int) a c ((0, 0, ()) : Sp) (hn s (but : Int)) ((0, 0, ()) : Sp) C (hn s (but : Int)) (hn s (but : Int)) (hn s (but : Int)) r r r (pairsP s r) g k = some y
noncomputable def g1_31 (s : Su) (but : Nat) (a c : Int) (r : List Int) (i k0 : Nat) (C : Hl) (g : List Int) (y : R31s124) : Prop := Ev fun k => T31s124_1 (i : Int) ((i + 1 : Nat) : Int) (k0 : Int) a c ((0, 0, ()) : Sp) (hn s (but : Int)) ((0, 0, ()) : Sp) C (hn s (but : Int)) (hn s (but : Int)) (hn s (but : Int)) r r r (pairsP s r) g k = some y
noncomputable def r0_31 (s : Su) (but : Nat) (a c : Int) (i : Nat) (m : Int) (C : Hl) (r l : List Int) (y : R31s134) : Prop := Ev fun k => T31s134_0 (i : Int) m a c ((0, 0, ()) : Sp) (hn s (but : Int)) ((0, 0, ()) : Sp) C (hn s (but : Int)) (hn s (but : Int)) (hn s (but : Int)) r l k = some y
noncomputable def r1_31 (s : Su) (but : Nat) (a c : Int) (i : Nat) (m v : Int) (C : Hl) (r l : List Int) (y : R31s134) : Prop := Ev fun k => T31s134_1 (i : Int) m v a c ((0, 0, ()) : Sp) (hn s (but : Int)) ((0, 0, ()) : Sp) C (hn s (but : Int)) (hn s (but : Int)) (hn s (but : Int)) r l k = some y
section
variable {s : Su} {but : Nat} {a c : Int} {r l g : List Int} {C : Hl} {y : R31s124} {z : R31s134}
theorem gnode_31 {i : Nat} (hs : VS s) (hi : i < s.2.2.1.length) (h : g1_31 s but a c r i 0 C g y) : g0_31 s but a c r i C g y := by
 have h5 := hs.n5
 refine R31s124_0 _ _ _ _ _ _ _ _ _ _ _ _ _ _ _ ?_
 simp only [Option.bind_some]
 rw [bqf (show (i : Int) ≠ (s.2.2.1.length : Int) by omega), wrap_succ (n := i) (by omega)]
 exact h
theorem gnot_31 (hs : VS s) (hb : but < 1000000000000) (h : soP s but.testBit g = false) : g0_31 s but a c r s.2.2.1.length C g (pg_31 s but a c r true C g) := by
 refine R31s124_0 _ _ _ _ _ _ _ _ _ _ _ _ _ _ _ ?_
 simp only [Option.bind_some]
 rw [bq rfl, L125 hs hb, h]
 exact Ev.all fun _ => rfl
theorem gdone_31 {i : Nat} : g1_31 s but a c r i (i + 1) C g (pg_31 s but a c r true C g) := by
 refine R31s124_1 _ _ _ _ _ _ _ _ _ _ _ _ _ _ _ _ _ ?_
 rw [dec_f (show ¬ ((i + 1 : Nat) : Int) < ((i + 1 : Nat) : Int) by omega)]
 exact Ev.all fun _ => rfl
theorem gskip_31 {i k : Nat} (hs : VS s) (hi : i < s.2.2.1.length) (hk : k ≤ i) (ho : okP s r g i k = false) (h : g1_31 s but a c r i (k + 1) C g y) : g1_31 s but a c r i k C g y := by
 have h5 := hs.n5
 have hlt : k < i := by
  rcases Nat.lt_or_eq_of_le hk with h | rfl
  ·exact h
  ·rw [okP_self] at ho; cases ho
 rw [okP_lt hlt] at ho
 refine R31s124_1 _ _ _ _ _ _ _ _ _ _ _ _ _ _ _ _ _ ?_
 rw [dec_t (show (k : Int) < ((i + 1 : Nat) : Int) by omega), dec_t (show (k : Int) < (i : Int) by omega), dec_t (show (0 : Int) ≤ (k : Int) by omega), dec_t (show (k : Int) < 5 by omega), dec_t (show Int.toNat (k : Int) < 5 by omega), wrap_succ (n := k) (by omega), Int.toNat_natCast, L121 hs (but : Int) r g i k hi]
 simp only [Bool.and_self, cond_true, Option.bind_some]
 cases hq : (g.getD k 0 == (k : Int)) with
 | false =>
  rw [show (g.getD k 0 != (k : Int)) = true by simpa using hq]
  exact h
 | true =>
  rw [hq, Bool.true_and] at ho
  rw [show (g.getD k 0 != (k : Int)) = false by simpa using hq, ho]
  exact h
theorem gcall_31 {i k : Nat} {b : Bool} {C' : Hl} {g' : List Int} (hs : VS s) (hi : i < s.2.2.1.length) (hk : k ≤ i) (ho : okP s r g i k = true) (h : g0_31 s but a c r (i + 1) C (g.set i (k : Int)) (pg_31 s but a c r b C' g')) (ht : b = true → g1_31 s but a c r i (k + 1) C' g' y) (hf : b = false → y = pg_31 s but a c r false C' g') : g1_31 s but a c r i k C g y := by
 have h5 := hs.n5
 refine R31s124_1 _ _ _ _ _ _ _ _ _ _ _ _ _ _ _ _ _ ?_
 rw [dec_t (show (k : Int) < ((i + 1 : Nat) : Int) by omega), dec_t (show (0 : Int) ≤ (i : Int) by omega), dec_t (show (i : Int) < 5 by omega), dec_t (show Int.toNat (i : Int) < 5 by omega), wrap_succ (n := i) (by omega), wrap_succ (n := k) (by omega), Int.toNat_natCast, Int.toNat_natCast]
 simp only [Bool.and_self, cond_true]
 rcases Nat.lt_or_eq_of_le hk with hlt | rfl
 ·rw [okP_lt hlt, Bool.and_eq_true] at ho
  have e1 : (g.getD k 0 != (k : Int)) = false := by simpa using ho.1
  rw [dec_t (show (k : Int) < (i : Int) by omega), dec_t (show (0 : Int) ≤ (k : Int) by omega), dec_t (show (k : Int) < 5 by omega), dec_t (show k < 5 by omega), e1, L121 hs (but : Int) r g i k hi, ho.2]
  simp only [Bool.and_self, cond_true, cond_false, Option.bind_some, Bool.not_true]
  refine Ev.sub h ?_
  cases b with
  | true => exact ht rfl
  | false =>
   rw [hf rfl]
   exact Ev.all fun _ => rfl
 ·rw [dec_f (show ¬ (k : Int) < (k : Int) by omega)]
  simp only [cond_false]
  refine Ev.sub h ?_
  cases b with
  | true => exact ht rfl
  | false =>
   rw [hf rfl]
   exact Ev.all fun _ => rfl
theorem rnode_31 {i : Nat} {m : Int} (hi : i < s.1.length) (h : r1_31 s but a c i m (s.1.getD i sp0).1 C r l z) : r0_31 s but a c i m C r l z := by
 refine R31s134_0 _ _ _ _ _ _ _ _ _ _ _ _ _ ?_
 simp only [Option.bind_some]
 rw [bqf (show (i : Int) ≠ (s.1.length : Int) by omega), dec_t (show (i : Int) < (s.1.length : Int) by omega), dec_t (show (0 : Int) ≤ (i : Int) by omega), Int.toNat_natCast]
 simp only [Bool.and_self, cond_true, cond_false]
 exact h
theorem rdone_31 {i : Nat} {m v : Int} (hi : i < s.1.length) (hv : min m (s.1.getD i sp0).2.1 < v) : r1_31 s but a c i m v C r l (pr_31 s but a c true C r l) := by
 refine R31s134_1 _ _ _ _ _ _ _ _ _ _ _ _ _ _ ?_
 simp only [Option.bind_some]
 rw [dec_t (show (i : Int) < (s.1.length : Int) by omega), dec_t (show (0 : Int) ≤ (i : Int) by omega), Int.toNat_natCast, show s.1.getD i (0, 0, ()) = s.1.getD i sp0 from rfl, if_min, dec_f (show ¬ v ≤ min m (s.1.getD i sp0).2.1 by omega)]
 simp only [Bool.and_self, cond_true, cond_false]
 exact Ev.all fun _ => rfl
theorem rcall_31 {i : Nat} {m v : Int} {b : Bool} {C' : Hl} {r' l' : List Int} (hs : VS s) (hi : i < s.1.length) (v0 : 0 ≤ v) (hv : v ≤ min m (s.1.getD i sp0).2.1) (v1 : v ≤ 16) (h : r0_31 s but a c (i + 1) v C (r.set i v) l (pr_31 s but a c b C' r' l')) (ht : b = true → r1_31 s but a c i m (v + 1) C' r' l' z) (hf : b = false → z = pr_31 s but a c false C' r' l') : r1_31 s but a c i m v C r l z := by
 have h3 := hs.b3
 refine R31s134_1 _ _ _ _ _ _ _ _ _ _ _ _ _ _ ?_
 simp only [Option.bind_some]
 rw [dec_t (show (i : Int) < (s.1.length : Int) by omega), dec_t (show (0 : Int) ≤ (i : Int) by omega), Int.toNat_natCast, show s.1.getD i (0, 0, ()) = s.1.getD i sp0 from rfl, if_min, dec_t hv, dec_t (show (i : Int) < 3 by omega), dec_t (show i < 3 by omega), wrap_succ (n := i) (by omega), wrap_id (x := v + 1) (by omega) (by omega)]
 simp only [Bool.and_self, cond_true]
 refine Ev.sub h ?_
 cases b with
 | true => exact ht rfl
 | false =>
  rw [hf rfl]
  exact Ev.all fun _ => rfl
end
section
variable (s : Su) (but : Nat) (a c : Int) (hs : VS s) (hb : but < 1000000000000) (step : Hl → List Int × List Int → Hl × Bool)
 (hfin : ∀ {C : Hl} {r g : List Int}, Good 3 16 r → Good 5 4 g → soP s but.testBit g = true → g0_31 s but a c r s.2.2.1.length C g (pg_31 s but a c r (step C (r, g)).2 (step C (r, g)).1 g))
 include hs hb hfin
noncomputable def dg_31 {r : List Int} (hr : Good 3 16 r) : DfsG (Hl) (R31s124) s.2.2.1.length (okP s r) (stepG s but step r) where
 A0 := g0_31 s but a c r
 A1 := g1_31 s but a c r
 P := pg_31 s but a c r
 leaf := fun {C g} hg => by
  unfold stepG
  cases h : soP s but.testBit g with
  | true => rw [if_pos rfl]; exact hfin hr hg h
  | false => rw [if_neg (by decide)]; exact gnot_31 hs hb h
 node := gnode_31 hs
 done := fun _ => gdone_31
 skip := fun h1 h2 _ => gskip_31 hs h1 h2
 call := fun h1 h2 _ => gcall_31 hs h1 h2
theorem rleaf_31 {m : Int} {C : Hl} {r l : List Int} (hne : r ≠ l) (hr : Good 3 16 r) : r0_31 s but a c s.1.length m C r l (pr_31 s but a c (stepR s but step C r).2 (stepR s but step C r).1 r r) := by
 obtain ⟨g', hg', _, _, h⟩ := (dg_31 s but a c hs hb step hfin hr).run hs.n5 (okP_take s r) s.2.2.1.length 0 [] C (List.replicate 5 0) (by omega) rfl ⟨by simp, fun x hx => by rw [List.mem_replicate] at hx; omega⟩ rfl (by rw [List.drop_replicate])
 refine R31s134_0 _ _ _ _ _ _ _ _ _ _ _ _ _ ?_
 simp only [Option.bind_some]
 rw [bq rfl, eqArr3, dec_f hne, L123 hs (but : Int) hr]
 simp only [cond_true, cond_false, Option.bind_some]
 have e := gsub_eq h
 unfold stepR
 rw [show partsP s r = gExt (okP s r) s.2.2.1.length [] from rfl]
 generalize foldT (stepG s but step r) (gExt (okP s r) s.2.2.1.length []) C = q at *
 obtain ⟨C', b⟩ := q
 refine Ev.all fun _ => ?_
 refine (congrArg (fun o => Option.bind o _) e).trans ?_
 cases b <;> rfl
theorem run_31 (C : Hl) : ∃ r' l', Good 3 16 r' ∧ r0_31 s but a c 0 16 C (List.replicate 3 0) (-1 :: List.replicate 2 0) (pr_31 s but a c (foldT step (truthsP s but.testBit) C).2 (foldT step (truthsP s but.testBit) C).1 r' l') := by
 have := (show DfsR (Hl) (R31s134) s (stepR s but step) from
  { A0 := r0_31 s but a c, A1 := r1_31 s but a c, P := pr_31 s but a c, leaf := fun h1 h2 => rleaf_31 s but a c hs hb step hfin h1 h2, node := rnode_31, done := rdone_31, call := fun h1 h2 h3 h4 _ h5 h6 h7 => rcall_31 hs h1 h2 h3 h4 h5 h6 h7 }).all hs C
 rw [fold_truths] at this
 exact this
end
def pg_33 (s : Su) (but : Nat) (a c : Int) (r : List Int) (ok : Bool) (C : (Int × Int)) (g : List Int) : R33s124 := ((ok, ()), a, c, (hn s (but : Int)), (((), (), (), (), ()), ()), C.1, C.2, ((if ok = true then 0 else 0 : Nat), (), (), (), ()), (hn s (but : Int)), (), (((hn s (but : Int)), ()), ()), ((), (), (), ()), (hn s (but : Int)), (), r, r, ((), (), (), (), (), (), ()), r, (pairsP s r), g, ((), (), (), (), (), (), (), (), ()), ())
def pr_33 (s : Su) (but : Nat) (a c : Int) (ok : Bool) (C : (Int × Int)) (r l : List Int) : R33s134 := ((ok, ()), a, c, (hn s (but : Int)), (((), (), (), (), ()), ()), C.1, C.2, ((if ok = true then 0 else 0 : Nat), (), (), (), ()), (hn s (but : Int)), (), (((hn s (but : Int)), ()), ()), ((if ok = true then 0 else 1 : Nat), (), (), (), ()), (hn s (but : Int)), (), r, l, ((), (), (), (), (), (), ()), ())
noncomputable def g0_33 (s : Su) (but : Nat) (a c : Int) (r : List Int) (i : Nat) (C : (Int × Int)) (g : List Int) (y : R33s124) : Prop := Ev fun k => T33s124_0 (i : Int) a c (hn s (but : Int)) C.1 C.2 (hn s (but : Int)) (hn s (but : Int)) (hn s (but : Int)) r r r (pairsP s r) g k = some y
noncomputable def g1_33 (s : Su) (but : Nat) (a c : Int) (r : List Int) (i k0 : Nat) (C : (Int × Int)) (g : List Int) (y : R33s124) : Prop := Ev fun k => T33s124_1 (i : Int) ((i + 1 : Nat) : Int) (k0 : Int) a c (hn s (but : Int)) C.1 C.2 (hn s (but : Int)) (hn s (but : Int)) (hn s (but : Int)) r r r (pairsP s r) g k = some y
noncomputable def r0_33 (s : Su) (but : Nat) (a c : Int) (i : Nat) (m : Int) (C : (Int × Int)) (r l : List Int) (y : R33s134) : Prop := Ev fun k => T33s134_0 (i : Int) m a c (hn s (but : Int)) C.1 C.2 (hn s (but : Int)) (hn s (but : Int)) (hn s (but : Int)) r l k = some y
noncomputable def r1_33 (s : Su) (but : Nat) (a c : Int) (i : Nat) (m v : Int) (C : (Int × Int)) (r l : List Int) (y : R33s134) : Prop := Ev fun k => T33s134_1 (i : Int) m v a c (hn s (but : Int)) C.1 C.2 (hn s (but : Int)) (hn s (but : Int)) (hn s (but : Int)) r l k = some y
section
variable {s : Su} {but : Nat} {a c : Int} {r l g : List Int} {C : (Int × Int)} {y : R33s124} {z : R33s134}
theorem gnode_33 {i : Nat} (hs : VS s) (hi : i < s.2.2.1.length) (h : g1_33 s but a c r i 0 C g y) : g0_33 s but a c r i C g y := by
 have h5 := hs.n5
 refine R33s124_0 _ _ _ _ _ _ _ _ _ _ _ _ _ _ ?_
 simp only [Option.bind_some]
 rw [bqf (show (i : Int) ≠ (s.2.2.1.length : Int) by omega), wrap_succ (n := i) (by omega)]
 exact h
theorem gnot_33 (hs : VS s) (hb : but < 1000000000000) (h : soP s but.testBit g = false) : g0_33 s but a c r s.2.2.1.length C g (pg_33 s but a c r true C g) := by
 refine R33s124_0 _ _ _ _ _ _ _ _ _ _ _ _ _ _ ?_
 simp only [Option.bind_some]
 rw [bq rfl, L125 hs hb, h]
 exact Ev.all fun _ => rfl
theorem gdone_33 {i : Nat} : g1_33 s but a c r i (i + 1) C g (pg_33 s but a c r true C g) := by
 refine R33s124_1 _ _ _ _ _ _ _ _ _ _ _ _ _ _ _ _ ?_
 rw [dec_f (show ¬ ((i + 1 : Nat) : Int) < ((i + 1 : Nat) : Int) by omega)]
 exact Ev.all fun _ => rfl
theorem gskip_33 {i k : Nat} (hs : VS s) (hi : i < s.2.2.1.length) (hk : k ≤ i) (ho : okP s r g i k = false) (h : g1_33 s but a c r i (k + 1) C g y) : g1_33 s but a c r i k C g y := by
 have h5 := hs.n5
 have hlt : k < i := by
  rcases Nat.lt_or_eq_of_le hk with h | rfl
  ·exact h
  ·rw [okP_self] at ho; cases ho
 rw [okP_lt hlt] at ho
 refine R33s124_1 _ _ _ _ _ _ _ _ _ _ _ _ _ _ _ _ ?_
 rw [dec_t (show (k : Int) < ((i + 1 : Nat) : Int) by omega), dec_t (show (k : Int) < (i : Int) by omega), dec_t (show (0 : Int) ≤ (k : Int) by omega), dec_t (show (k : Int) < 5 by omega), dec_t (show Int.toNat (k : Int) < 5 by omega), wrap_succ (n := k) (by omega), Int.toNat_natCast, L121 hs (but : Int) r g i k hi]
 simp only [Bool.and_self, cond_true, Option.bind_some]
 cases hq : (g.getD k 0 == (k : Int)) with
 | false =>
  rw [show (g.getD k 0 != (k : Int)) = true by simpa using hq]
  exact h
 | true =>
  rw [hq, Bool.true_and] at ho
  rw [show (g.getD k 0 != (k : Int)) = false by simpa using hq, ho]
  exact h
theorem gcall_33 {i k : Nat} {b : Bool} {C' : (Int × Int)} {g' : List Int} (hs : VS s) (hi : i < s.2.2.1.length) (hk : k ≤ i) (ho : okP s r g i k = true) (h : g0_33 s but a c r (i + 1) C (g.set i (k : Int)) (pg_33 s but a c r b C' g')) (ht : b = true → g1_33 s but a c r i (k + 1) C' g' y) (hf : b = false → y = pg_33 s but a c r false C' g') : g1_33 s but a c r i k C g y := by
 have h5 := hs.n5
 refine R33s124_1 _ _ _ _ _ _ _ _ _ _ _ _ _ _ _ _ ?_
 rw [dec_t (show (k : Int) < ((i + 1 : Nat) : Int) by omega), dec_t (show (0 : Int) ≤ (i : Int) by omega), dec_t (show (i : Int) < 5 by omega), dec_t (show Int.toNat (i : Int) < 5 by omega), wrap_succ (n := i) (by omega), wrap_succ (n := k) (by omega), Int.toNat_natCast, Int.toNat_natCast]
 simp only [Bool.and_self, cond_true]
 rcases Nat.lt_or_eq_of_le hk with hlt | rfl
 ·rw [okP_lt hlt, Bool.and_eq_true] at ho
  have e1 : (g.getD k 0 != (k : Int)) = false := by simpa using ho.1
  rw [dec_t (show (k : Int) < (i : Int) by omega), dec_t (show (0 : Int) ≤ (k : Int) by omega), dec_t (show (k : Int) < 5 by omega), dec_t (show k < 5 by omega), e1, L121 hs (but : Int) r g i k hi, ho.2]
  simp only [Bool.and_self, cond_true, cond_false, Option.bind_some, Bool.not_true]
  refine Ev.sub h ?_
  cases b with
  | true => exact ht rfl
  | false =>
   rw [hf rfl]
   exact Ev.all fun _ => rfl
 ·rw [dec_f (show ¬ (k : Int) < (k : Int) by omega)]
  simp only [cond_false]
  refine Ev.sub h ?_
  cases b with
  | true => exact ht rfl
  | false =>
   rw [hf rfl]
   exact Ev.all fun _ => rfl
theorem rnode_33 {i : Nat} {m : Int} (hi : i < s.1.length) (h : r1_33 s but a c i m (s.1.getD i sp0).1 C r l z) : r0_33 s but a c i m C r l z := by
 refine R33s134_0 _ _ _ _ _ _ _ _ _ _ _ _ ?_
 simp only [Option.bind_some]
 rw [bqf (show (i : Int) ≠ (s.1.length : Int) by omega), dec_t (show (i : Int) < (s.1.length : Int) by omega), dec_t (show (0 : Int) ≤ (i : Int) by omega), Int.toNat_natCast]
 simp only [Bool.and_self, cond_true, cond_false]
 exact h
theorem rdone_33 {i : Nat} {m v : Int} (hi : i < s.1.length) (hv : min m (s.1.getD i sp0).2.1 < v) : r1_33 s but a c i m v C r l (pr_33 s but a c true C r l) := by
 refine R33s134_1 _ _ _ _ _ _ _ _ _ _ _ _ _ ?_
 simp only [Option.bind_some]
 rw [dec_t (show (i : Int) < (s.1.length : Int) by omega), dec_t (show (0 : Int) ≤ (i : Int) by omega), Int.toNat_natCast, show s.1.getD i (0, 0, ()) = s.1.getD i sp0 from rfl, if_min, dec_f (show ¬ v ≤ min m (s.1.getD i sp0).2.1 by omega)]
 simp only [Bool.and_self, cond_true, cond_false]
 exact Ev.all fun _ => rfl
theorem rcall_33 {i : Nat} {m v : Int} {b : Bool} {C' : (Int × Int)} {r' l' : List Int} (hs : VS s) (hi : i < s.1.length) (v0 : 0 ≤ v) (hv : v ≤ min m (s.1.getD i sp0).2.1) (v1 : v ≤ 16) (h : r0_33 s but a c (i + 1) v C (r.set i v) l (pr_33 s but a c b C' r' l')) (ht : b = true → r1_33 s but a c i m (v + 1) C' r' l' z) (hf : b = false → z = pr_33 s but a c false C' r' l') : r1_33 s but a c i m v C r l z := by
 have h3 := hs.b3
 refine R33s134_1 _ _ _ _ _ _ _ _ _ _ _ _ _ ?_
 simp only [Option.bind_some]
 rw [dec_t (show (i : Int) < (s.1.length : Int) by omega), dec_t (show (0 : Int) ≤ (i : Int) by omega), Int.toNat_natCast, show s.1.getD i (0, 0, ()) = s.1.getD i sp0 from rfl, if_min, dec_t hv, dec_t (show (i : Int) < 3 by omega), dec_t (show i < 3 by omega), wrap_succ (n := i) (by omega), wrap_id (x := v + 1) (by omega) (by omega)]
 simp only [Bool.and_self, cond_true]
 refine Ev.sub h ?_
 cases b with
 | true => exact ht rfl
 | false =>
  rw [hf rfl]
  exact Ev.all fun _ => rfl
end
section
variable (s : Su) (but : Nat) (a c : Int) (hs : VS s) (hb : but < 1000000000000) (step : (Int × Int) → List Int × List Int → (Int × Int) × Bool)
 (hfin : ∀ {C : (Int × Int)} {r g : List Int}, Good 3 16 r → Good 5 4 g → soP s but.testBit g = true → g0_33 s but a c r s.2.2.1.length C g (pg_33 s but a c r (step C (r, g)).2 (step C (r, g)).1 g))
 include hs hb hfin
noncomputable def dg_33 {r : List Int} (hr : Good 3 16 r) : DfsG ((Int × Int)) (R33s124) s.2.2.1.length (okP s r) (stepG s but step r) where
 A0 := g0_33 s but a c r
 A1 := g1_33 s but a c r
 P := pg_33 s but a c r
 leaf := fun {C g} hg => by
  unfold stepG
  cases h : soP s but.testBit g with
  | true => rw [if_pos rfl]; exact hfin hr hg h
  | false => rw [if_neg (by decide)]; exact gnot_33 hs hb h
 node := gnode_33 hs
 done := fun _ => gdone_33
 skip := fun h1 h2 _ => gskip_33 hs h1 h2
 call := fun h1 h2 _ => gcall_33 hs h1 h2
theorem rleaf_33 {m : Int} {C : (Int × Int)} {r l : List Int} (hne : r ≠ l) (hr : Good 3 16 r) : r0_33 s but a c s.1.length m C r l (pr_33 s but a c (stepR s but step C r).2 (stepR s but step C r).1 r r) := by
 obtain ⟨g', hg', _, _, h⟩ := (dg_33 s but a c hs hb step hfin hr).run hs.n5 (okP_take s r) s.2.2.1.length 0 [] C (List.replicate 5 0) (by omega) rfl ⟨by simp, fun x hx => by rw [List.mem_replicate] at hx; omega⟩ rfl (by rw [List.drop_replicate])
 refine R33s134_0 _ _ _ _ _ _ _ _ _ _ _ _ ?_
 simp only [Option.bind_some]
 rw [bq rfl, eqArr3, dec_f hne, L123 hs (but : Int) hr]
 simp only [cond_true, cond_false, Option.bind_some]
 have e := gsub_eq h
 unfold stepR
 rw [show partsP s r = gExt (okP s r) s.2.2.1.length [] from rfl]
 generalize foldT (stepG s but step r) (gExt (okP s r) s.2.2.1.length []) C = q at *
 obtain ⟨C', b⟩ := q
 refine Ev.all fun _ => ?_
 refine (congrArg (fun o => Option.bind o _) e).trans ?_
 cases b <;> rfl
theorem run_33 (C : (Int × Int)) : ∃ r' l', Good 3 16 r' ∧ r0_33 s but a c 0 16 C (List.replicate 3 0) (-1 :: List.replicate 2 0) (pr_33 s but a c (foldT step (truthsP s but.testBit) C).2 (foldT step (truthsP s but.testBit) C).1 r' l') := by
 have := (show DfsR ((Int × Int)) (R33s134) s (stepR s but step) from
  { A0 := r0_33 s but a c, A1 := r1_33 s but a c, P := pr_33 s but a c, leaf := fun h1 h2 => rleaf_33 s but a c hs hb step hfin h1 h2, node := rnode_33, done := rdone_33, call := fun h1 h2 h3 h4 _ h5 h6 h7 => rcall_33 hs h1 h2 h3 h4 h5 h6 h7 }).all hs C
 rw [fold_truths] at this
 exact this
end
end Go.Proofs.Ytkhhbpocmmmnmaa
