/- What the ghost comes to: law 9. Conditions: none (equations, each by computation). -/
import Derived.Test.YtkhhbpocmmmnmaaTuH
import Derived.Test.YtkhhbpocmmmnmaaTuL13
namespace Go.Proofs.Ytkhhbpocmmmnmaa
open Go Go.Gh Go.Proofs
def S9 : List Gh.Spec := [{ key := (0, 9, 8, 1), frs := [{ fn := 9, n := 86, regs := [(1, (.dat (.int .u16))), (5, (.dat (.slice (.int .i64)))), (6, (.dat (.int .i64))), (7, (.dat (.slice (.struct [(.slice (.int .i64)), (.slice (.int .i64))])))), (8, (.ptr 90008 [])), (9, (.dat (.int .i64))), (10, (.dat .bool)), (11, (.dat (.int .i64)))], round := none, defers := [] }], heap := [(90008, .box (.dat tSp) false)] }]
noncomputable def K9_0 : Kept := { todos := [[.inLoop (cAt Try.f9 [1, 1, 1, 1, 1, 1, 0, 1, 0, 0]), .inBlock 0, .code (cAt Try.f9 [1, 1, 1, 1, 1, 1, 1])]], cs := [noCodes] }
noncomputable def F9 : denL [tSu, (.int .u16)] → Option (denL [.bool]) := ghost cx41 S9 6000 9 [tSu, (.int .u16)] [.bool]
noncomputable abbrev T9_0 (t1 : Int) (t5 : (List Int)) (t6 : Int) (t7 : (List ((List Int) × (List Int) × Unit))) (t9 : Int) (t10 : Bool) (t11 : Int) (h0 : Sp) (f : Nat) : Option (denL [.bool]) := iter cx41 S9 [.bool] 6000 f 0 K9_0 (((t1, (t5, (t6, (t7, ((), (t9, (t10, (t11, ())))))))), ()), (h0, ()))
theorem R9_0 (t1 : Int) (t5 : (List Int)) (t6 : Int) (t7 : (List ((List Int) × (List Int) × Unit))) (t9 : Int) (t10 : Bool) (t11 : Int) (h0 : Sp) {y : denL [.bool]} (h : Ev fun k =>
 (bif decide (t11 < (↑(List.length t7) : Int)) then bif t10 then T9_0 t1 t5 t6 t7 t9 true (IntKind.wrap IntKind.i64 (t11 + 1)) h0 k else bif decide (0 ≤ t11) && decide (t11 < (↑(List.length t7) : Int)) then Option.bind (F30 (Prod.fst (Prod.snd (List.getD t7 (Int.toNat t11) ([], [], ()))), t5, ())) fun (y : Bool × Unit) => T9_0 t1 t5 t6 t7 t9 y.1 (IntKind.wrap IntKind.i64 (t11 + 1)) h0 k else none else bif t6 == 0 then bif t9 == 0 then bif t10 then Option.bind (F43 (t5, ())) fun (y : Int × Unit) => bif y.1 == h0.1 then bif decide ((↑(List.length t7) : Int) = 0) then none else bif decide (0 ≤ Int.tmod (IntKind.wrap IntKind.i64 t1) (↑(List.length t7) : Int)) && decide (Int.tmod (IntKind.wrap IntKind.i64 t1) (↑(List.length t7) : Int) < (↑(List.length t7) : Int)) then Option.bind (F49 (Prod.fst (Prod.snd (List.getD t7 (Int.toNat (Int.tmod (IntKind.wrap IntKind.i64 t1) (↑(List.length t7) : Int))) ([], [], ()))), t5, ())) fun (y : Bool × Unit) => bif !y.1 then Option.bind (F25 ()) fun (y : Bool × Unit) => some (y.1, ()) else some (false, ()) else none else some (false, ()) else some (false, ()) else some (false, ()) else some (false, ()) : Option (denL [.bool])) = some y) : Ev fun k => T9_0 t1 t5 t6 t7 t9 t10 t11 h0 k = some y := iter_ev (Ev.eq (fun _ => by kernel_rfl) h)
theorem N9 (t0 : Su) (t1 : Int) {y : denL [.bool]} (h : Ev fun k =>
 (Option.bind (F28 (t0, ())) fun (y : List Int × Int × Unit) => Option.bind (F47 (t0, ())) fun (y_1 : Bool × Unit) => bif !y_1.1 then bif y.2.1 != 0 then bif (↑(List.length y.1) : Int) == 0 then Option.bind (F25 ()) fun (y : Bool × Unit) => some (y.1, ()) else some (false, ()) else some (false, ()) else Option.bind (F48 (t0, [], ())) fun (y_2 : List (List Int × List Int × Unit) × Unit) => Option.bind (F26 (t0, ())) fun (y_3 : Sp × Int × Unit) => T9_0 t1 y.1 y.2.1 y_2.1 y_3.2.1 false 0 y_3.1 k : Option (denL [.bool])) = some y) : F9 (t0, (t1, ())) = some y := ghost_eq (Ev.eq (fun _ => by kernel_rfl) h)
end Go.Proofs.Ytkhhbpocmmmnmaa
/- What the ghost comes to: law 11. Conditions: none (equations, each by computation). -/
namespace Go.Proofs.Ytkhhbpocmmmnmaa
open Go Go.Gh Go.Proofs
def S11 : List Gh.Spec := [{ key := (0, 11, 6, 1), frs := [{ fn := 11, n := 95, regs := [(1, (.dat (.int .u8))), (2, (.ptr 110002 [])), (5, (.dat (.slice (.int .i64)))), (6, (.dat (.int .i64))), (7, (.row 110042)), (8, (.dat (.int .i64)))], round := none, defers := [] }], heap := [(110002, .box (.dat tSu) false), (110042, .row (.int .i64) false)] }]
noncomputable def K11_0 : Kept := { todos := [[.inLoop (cAt Try.f11 [1, 1, 1, 1, 0, 1, 0, 0]), .inBlock 0, .code (cAt Try.f11 [1, 1, 1, 1, 1])]], cs := [noCodes, noCodes] }
noncomputable def F11 : denL [tSu, (.int .u8)] → Option (denL [.bool]) := ghost cx41 S11 6000 11 [tSu, (.int .u8)] [.bool]
noncomputable abbrev T11_0 (t1 : Int) (t5 : (List Int)) (t6 : Int) (t8 : Int) (h0 : Su) (h1 : (List Int)) (f : Nat) : Option (denL [.bool]) := iter cx41 S11 [.bool] 6000 f 0 K11_0 (((t1, ((), (t5, (t6, ((), (t8, ())))))), ()), (h0, (h1, ())))
theorem R11_0 (t1 : Int) (t5 : (List Int)) (t6 : Int) (t8 : Int) (h0 : Su) (h1 : (List Int)) {y : denL [.bool]} (h : Ev fun k =>
 (bif decide (t8 < (↑(List.length h0.2.2.2.1) : Int)) then Option.bind (F50 (IntKind.wrap IntKind.i64 t1, t8, ())) fun (y : Bool × Unit) => bif y.1 then bif decide (List.length h1 + List.length (List.set (List.replicate 1 0) 0 t8) ≤ 2147483648) then T11_0 t1 t5 t6 (IntKind.wrap IntKind.i64 (t8 + 1)) h0 (h1 ++ List.set (List.replicate 1 0) 0 t8) k else none else T11_0 t1 t5 t6 (IntKind.wrap IntKind.i64 (t8 + 1)) h0 h1 k else Option.bind (F48 (h0, h1, ())) fun (y : List (List Int × List Int × Unit) × Unit) => bif t6 != 0 then bif t6 == 8 then bif (↑(List.length t5) : Int) == 0 then bif !decide ((↑(List.length y.1) : Int) > 0) then Option.bind (F51 (h0, ())) fun (y : Su × Unit) => Option.bind (F47 (y.1, ())) fun (y : Bool × Unit) => bif !y.1 then Option.bind (F25 ()) fun (y : Bool × Unit) => some (y.1, ()) else some (false, ()) else some (false, ()) else some (false, ()) else some (false, ()) else Option.bind (F52 (t5, (↑(List.length h0.2.2.2.1) : Int), ())) fun (y_1 : Bool × Unit) => bif y_1.1 then Option.bind (F48 (h0, t5, ())) fun (y_2 : List (List Int × List Int × Unit) × Unit) => bif decide ((↑(List.length y_2.1) : Int) > 0) then bif !decide ((↑(List.length y.1) : Int) > 0) then Option.bind (F25 ()) fun (y : Bool × Unit) => some (y.1, ()) else Option.bind (F53 (h1, t5, ())) fun (y : Bool × Unit) => bif !y.1 then Option.bind (F25 ()) fun (y : Bool × Unit) => some (y.1, ()) else some (false, ()) else some (false, ()) else some (false, ()) : Option (denL [.bool])) = some y) : Ev fun k => T11_0 t1 t5 t6 t8 h0 h1 k = some y := iter_ev (Ev.eq (fun _ => by kernel_rfl) h)
theorem N11 (t0 : Su) (t1 : Int) {y : denL [.bool]} (h : Ev fun k =>
 (Option.bind (F35 (t0, ())) fun (y : List Int × Int × Unit) => Option.bind (F40 (t0, ())) fun (y_1 : Bool × Unit) => bif !y_1.1 then bif y.2.1 != 0 then bif (↑(List.length y.1) : Int) == 0 then Option.bind (F25 ()) fun (y : Bool × Unit) => some (y.1, ()) else some (false, ()) else some (false, ()) else T11_0 t1 y.1 y.2.1 0 t0 ([]) k : Option (denL [.bool])) = some y) : F11 (t0, (t1, ())) = some y := ghost_eq (Ev.eq (fun _ => by kernel_rfl) h)
end Go.Proofs.Ytkhhbpocmmmnmaa
/- Laws 9 and 11: the fewest groups, the fewest wrong things told. Conditions: as each lemma states. -/
namespace Go.Proofs.Ytkhhbpocmmmnmaa
open Go Go.Gh Go.Proofs
open Go.Few
theorem cmp1_anti (a b : Int) : cmp1 a b = -cmp1 b a := by
 unfold cmp1
 rcases Int.lt_trichotomy a b with h | h | h
 ·rw [if_pos h, if_neg (by omega), if_pos (by omega)]
 ·rw [if_neg (by omega), if_neg (by omega), if_neg (by omega), if_neg (by omega)]; rfl
 ·rw [if_neg (by omega), if_pos (by omega), if_pos h]; rfl
theorem cmpL_anti : ∀ (l p : List Int), cmpL l p = -cmpL p l
 | [], [] => rfl
 | [], _ :: _ => rfl
 | _ :: _, [] => rfl
 | a :: l, b :: p => by
  simp only [cmpL]
  rw [cmp1_anti a b]
  by_cases h : cmp1 b a = 0
  ·rw [if_neg (by omega), if_neg (by omega)]
   exact cmpL_anti l p
  ·rw [if_pos (by omega), if_pos h]
theorem cmpL_lt {l p : List Int} (h : l.length = p.length) : cmpL l p < 0 ↔ lex l p := by
 rw [cmpL_anti, ← cmpL_lex h.symm]
 omega
def bfP (n : Nat) (g b : List Int) : Prop := manyP n g < manyP n b ∨ manyP n g = manyP n b ∧ lex g b
theorem bfr_iff {n m : Nat} {g b : List Int} (hg : g.length = m) (hb : b.length = m) : bfr n g b = true ↔ bfP n g b := by
 unfold bfr bfP
 rw [Bool.or_eq_true, Bool.and_eq_true, decide_eq_true_eq, decide_eq_true_eq, beq_iff_eq, cmpL_lt (hg.trans hb.symm)]
theorem bfP_trans {n : Nat} {a b c : List Int} (h1 : bfP n a b) (h2 : bfP n b c) : bfP n a c := by
 rcases h1 with h1 | ⟨h1, h1'⟩ <;> rcases h2 with h2 | ⟨h2, h2'⟩
 ·exact .inl (by omega)
 ·exact .inl (by omega)
 ·exact .inl (by omega)
 ·exact .inr ⟨by omega, lex_trans h1' h2'⟩
theorem bfP_irr (n : Nat) (a : List Int) : ¬ bfP n a a := by
 rintro (h | ⟨_, h⟩)
 ·omega
 ·exact lex_irr a h
def bestG (n : Nat) : List (List Int) → List Int
 | [] => []
 | g :: l => l.foldl (fun b g => if bfr n g b = true then g else b) g
theorem best_first {n m : Nat} : ∀ (l : List (List Int)) (b : List Int), b.length = m → (∀ g ∈ l, g.length = m) → ∀ g ∈ b :: l, ¬ bfP n g (l.foldl (fun b g => if bfr n g b = true then g else b) b)
 | [], b, _, _, g, hg => by
  rw [List.mem_singleton] at hg
  subst hg
  exact bfP_irr n _
 | x :: l, b, hb, hl, g, hg => by
  have hx := hl x (by simp)
  have hb' : (if bfr n x b = true then x else b).length = m := by split <;> assumption
  have ih := best_first (n := n) l _ hb' (fun y hy => hl y (by simp [hy]))
  rw [List.foldl_cons]
  rw [List.mem_cons, List.mem_cons] at hg
  have head := ih _ List.mem_cons_self
  rcases hg with rfl | rfl | hg
  ·intro h
   cases hq : bfr n x g with
   | true =>
    rw [hq, if_pos rfl] at h head
    exact head (bfP_trans ((bfr_iff hx hb).1 hq) h)
   | false =>
    rw [hq, if_neg (by decide)] at h head
    exact head h
  ·intro h
   cases hq : bfr n g b with
   | true =>
    rw [hq, if_pos rfl] at h head
    exact head h
   | false =>
    rw [hq, if_neg (by decide)] at h head
    have hml := best_mem n l b
    generalize l.foldl (fun b g => if bfr n g b = true then g else b) b = z at *
    have hz : z.length = m := by
     rw [List.mem_cons] at hml
     rcases hml with rfl | hml
     ·exact hb
     ·exact hl z (by simp [hml])
    have hbz : ¬ bfP n b z := head
    have hgb : ¬ bfP n g b := fun h2 => by rw [(bfr_iff hx hb).2 h2] at hq; cases hq
    rcases Nat.lt_trichotomy (manyP n b) (manyP n z) with h3 | h3 | h3
    ·exact hbz (.inl h3)
    ·rcases lex_tri (hb.trans hz.symm) with h4 | h4 | h4
     ·exact hgb (h4 ▸ h)
     ·exact hbz (.inr ⟨h3, h4⟩)
     ·exact hgb (bfP_trans h (.inr ⟨h3.symm, h4⟩))
    ·exact hgb (bfP_trans h (.inl h3))
  ·exact ih g (by simp [hg])
section
variable {s : Su} (hs : VS s) (ht : trP s ≠ [])
 include hs ht
theorem fewest_ok : fewestP s = (bestG s.2.2.1.length ((refL s).map fun t => t.2.1), 0, ()) := by
 have he : errP s [] = 0 := by
  rw [errP_none, if_pos ((chkP_ok s).2 hs), if_neg ht]
 have hne := refL_ne hs ht
 have hall : ∀ g ∈ (refL s).map (fun t => t.2.1), g.length = s.2.2.1.length := fun g hg => by
  obtain ⟨t, ht, rfl⟩ := List.mem_map.1 hg
  exact (refT_ok hs ht).gl
 unfold fewestP
 rw [if_pos he, map_tr hs (fun t => t.2) (fun t => pad 5 t.2.1) (fun _ => rfl)]
 generalize refL s = L at hne hall ⊢
 cases L with
 | nil => exact absurd rfl hne
 | cons t0 L =>
  have := best_pad (L.map fun t => t.2.1) t0.2.1 (hall _ (by simp)) (fun g hg => hall g (by simp at hg ⊢; exact .inr hg))
  rw [List.map_map] at this
  show (((L.map (fun t : Tr => pad 5 t.2.1)).foldl (fun b g => if bfr s.2.2.1.length g b = true then g else b) (pad 5 t0.2.1)).take s.2.2.1.length, 0, ()) = _
  rw [show (L.map (fun t : Tr => pad 5 t.2.1)) = L.map (pad 5 ∘ fun t => t.2.1) from rfl, this.1, pad_take this.2]
  rfl
theorem best_in : ∃ t ∈ refL s, t.2.1 = bestG s.2.2.1.length ((refL s).map fun t => t.2.1) := by
 have hne := refL_ne hs ht
 generalize refL s = L at hne ⊢
 cases L with
 | nil => exact absurd rfl hne
 | cons t0 L =>
  have := best_mem s.2.2.1.length (L.map fun t => t.2.1) t0.2.1
  rw [show t0.2.1 :: L.map (fun t => t.2.1) = (t0 :: L).map (fun t => t.2.1) from rfl, List.mem_map] at this
  exact this
end
theorem best_no {s : Su} (hs : VS s) {t : Tr} (h : t ∈ refL s) : ¬ bfP s.2.2.1.length t.2.1 (bestG s.2.2.1.length ((refL s).map fun t => t.2.1)) := by
 have hall : ∀ g ∈ (refL s).map (fun t => t.2.1), g.length = s.2.2.1.length := fun g hg => by
  obtain ⟨t, ht, rfl⟩ := List.mem_map.1 hg
  exact (refT_ok hs ht).gl
 generalize refL s = L at h hall ⊢
 cases L with
 | nil => cases h
 | cons t0 L =>
  exact best_first (L.map fun t => t.2.1) t0.2.1 (hall _ (by simp)) (fun g hg => hall g (by simp at hg ⊢; exact .inr hg)) _ (by rw [show t0.2.1 :: L.map (fun t => t.2.1) = (t0 :: L).map (fun t => t.2.1) from rfl]; exact List.mem_map.2 ⟨t, h, rfl⟩)
theorem fewest_err {s : Su} (h : someP s = false) : (fewestP s).2.1 ≠ 0 ∧ (fewestP s).1 = [] := by
 have := errP_ne h [] ne0
 unfold fewestP
 rw [if_neg this]
 exact ⟨this, rfl⟩
theorem L9 (s : Su) (x : Int) (hx : 0 ≤ x ∧ x ≤ 65535) : F9 ((s, x, ()) : Su × Int × Unit) = some (true, ()) := by
 obtain ⟨m, rfl⟩ := Int.eq_ofNat_of_zero_le hx.1
 refine N9 _ _ ?_
 rw [L28, L47]
 simp only [Option.bind_some]
 cases hv : someP s with
 | false =>
  obtain ⟨h1, h2⟩ := fewest_err hv
  rw [nbqf h1, h2]
  exact awake_end rfl
 | true =>
  obtain ⟨hs, ht⟩ := someP_t.1 hv
  have hne := refL_ne hs ht
  have hpos := List.length_pos_iff.2 hne
  have h5 := hs.n5
  have cap := refL_cap hs
  simp only [Bool.not_true, cond_false]
  rw [L48 hs [] (by simp), show refT s (inL []) = refL s from rfl, L26, groups_ok hs ht, fewest_ok hs ht]
  simp only [Option.bind_some]
  obtain ⟨tb, mb, eb⟩ := best_in hs ht
  have hno : ∀ t ∈ refL s, ¬ bfP s.2.2.1.length t.2.1 (bestG s.2.2.1.length ((refL s).map fun t => t.2.1)) := fun t h => best_no hs h
  generalize bestG s.2.2.1.length ((refL s).map fun t => t.2.1) = B at *
  have hB : B.length = s.2.2.1.length := by rw [← eb]; exact (refT_ok hs mb).gl
  have key : ∀ (c i : Nat) (met : Bool), i + c = (refL s).length → (met = true ∨ ∃ t ∈ (refL s).drop i, t.2.1 = B) → Ev fun k => T9_0 (m : Int) B 0 (refL s) 0 met i (hullL ((refL s).map fun t => (manyP s.2.2.1.length t.2.1 : Int))) k = some (true, ()) := by
   intro c
   induction c with
   | zero =>
    intro i met hi hmet
    refine R9_0 _ _ _ _ _ _ _ _ ?_
    have hm : met = true := by
     rcases hmet with h | ⟨t, h, _⟩
     ·exact h
     ·rw [List.drop_eq_nil_of_le (by omega)] at h; cases h
    have hlt : m % (refL s).length < (refL s).length := Nat.mod_lt _ hpos
    have hlo : (manyP s.2.2.1.length B : Int) = (hullL ((refL s).map fun t => (manyP s.2.2.1.length t.2.1 : Int))).1 := by
     obtain ⟨⟨t1, m1, e1⟩, _⟩ := hull_map_at (f := fun t : Tr => (manyP s.2.2.1.length t.2.1 : Int)) hne
     have h1 := (hull_map_le (f := fun t : Tr => (manyP s.2.2.1.length t.2.1 : Int)) mb).1
     rw [eb] at h1
     have h2 := hno t1 m1
     have : ¬ manyP s.2.2.1.length t1.2.1 < manyP s.2.2.1.length B := fun h => h2 (.inl h)
     omega
    rw [dec_f (show ¬ (i : Int) < ((refL s).length : Int) by omega)]
    simp only [cond_false]
    rw [hm, L43 B (by omega), hB, dec_f (show ¬ ((refL s).length : Int) = 0 by omega), wrap_id (x := (m : Int)) (by omega) (by omega), show Int.tmod (m : Int) ((refL s).length : Int) = ((m % (refL s).length : Nat) : Int) by rw [Int.tmod_eq_emod_of_nonneg (by omega)]; simp, dec_t (show (0 : Int) ≤ ((m % (refL s).length : Nat) : Int) by omega), dec_t (show ((m % (refL s).length : Nat) : Int) < ((refL s).length : Int) by omega), Int.toNat_natCast, show (refL s).getD (m % (refL s).length) ([], [], ()) = (refL s)[m % (refL s).length] from getD_lt hlt, L49 (by omega) (refL_ok hs hlt).gl hB]
    simp only [cond_false, cond_true, Option.bind_some, Bool.and_self, eSelf]
    rw [bq hlo]
    have hb : bfr s.2.2.1.length (refL s)[m % (refL s).length].2.1 B = false := by
     cases hq : bfr s.2.2.1.length (refL s)[m % (refL s).length].2.1 B with
     | false => rfl
     | true => exact absurd ((bfr_iff (refL_ok hs hlt).gl hB).1 hq) (hno _ (List.getElem_mem hlt))
    rw [hb]
    exact awake_end rfl
   | succ c ih =>
    intro i met hi hmet
    have hlt : i < (refL s).length := by omega
    refine R9_0 _ _ _ _ _ _ _ _ ?_
    rw [dec_t (show (i : Int) < ((refL s).length : Int) by omega), wrap_succ (n := i) (by omega), dec_t (show (0 : Int) ≤ (i : Int) by omega), Int.toNat_natCast, show (refL s).getD i ([], [], ()) = (refL s)[i] from getD_lt hlt, L30 _ _ (by rw [(refL_ok hs hlt).gl]; omega)]
    simp only [Bool.and_self, cond_true, Option.bind_some]
    cases met with
    | true => exact ih (i + 1) true (by omega) (.inl rfl)
    | false =>
     refine ih (i + 1) _ (by omega) ?_
     rcases hmet with h | ⟨t, h, e⟩
     ·cases h
     ·rw [List.drop_eq_getElem_cons hlt, List.mem_cons] at h
      rcases h with rfl | h
      ·exact .inl (dec_t e)
      ·exact .inr ⟨t, h, e⟩
  exact key _ 0 false (Nat.zero_add _) (.inr ⟨tb, by rw [List.drop_zero]; exact mb, eb⟩)
theorem idx_in (s : Su) : ∀ x ∈ idxL s, 0 ≤ x ∧ x < (s.2.2.2.1.length : Int) := fun x hx => by
 unfold idxL at hx
 rw [mem_upto] at hx
 omega
theorem wrong_best {s : Su} (h0 : (chkP s).2.2.1 = 0) : (∃ r, wrongP s = (r, 0, ()) ∧ Best (fun l => l.Sublist (idxL s) ∧ okW s l = true) r) ∨ (wrongP s = ([], 8, ()) ∧ ∀ l, l.Sublist (idxL s) → okW s l = false) := by
 rw [wrong_find h0]
 have hall : ∀ l, l ∈ subsTo (idxL s) (s.2.2.2.1.length + 1) ↔ l.Sublist (idxL s) := fun l => by
  have := mem_all (hs := idxL s) (l := l)
  rwa [idx_len] at this
 cases hf : (subsTo (idxL s) (s.2.2.2.1.length + 1)).find? (okW s) with
 | some r =>
  have hb := find_best (okW s) (subsTo_pair (show (idxL s).Pairwise (· < ·) from upto_pair _ _) _) hf
  exact .inl ⟨r, rfl, hb.iff fun l => by rw [hall]⟩
 | none =>
  refine .inr ⟨rfl, fun l hl => ?_⟩
  have := List.find?_eq_none.1 hf l ((hall l).2 hl)
  simpa using this
theorem rising_of {l : List Int} {b : Int} (hp : l.Pairwise (· < ·)) (hin : ∀ x ∈ l, 0 ≤ x ∧ x < b) : risingP l b = true := by
 unfold risingP
 rw [List.all_eq_true]
 intro i hi
 have hi := List.mem_range.1 hi
 have h1 := hin _ (List.getElem_mem hi)
 rw [getD_lt hi, outP_f.2 h1]
 by_cases h0 : i = 0
 ·simp [h0]
 ·have := List.pairwise_iff_getElem.1 hp (i - 1) i (by omega) hi (by omega)
  rw [getD_lt (show i - 1 < l.length by omega), dec_t this]
  simp
theorem len_ref {s : Su} (hs : VS s) {l : List Int} (hl : ∀ x ∈ l, 0 ≤ x) : decide (((refT s (inL l)).length : Int) > 0) = okW s l := by
 rw [okW_ref hs hl, Bool.eq_iff_iff, decide_eq_true_eq, decide_eq_true_eq, ← List.length_pos_iff]
 omega
theorem plain_none {s : Su} (hs : VS s) (h : okW s (idxL s) = false) : someP (plainP s) = false := by
 cases hp : someP (plainP s) with
 | false => rfl
 | true =>
  obtain ⟨hp1, hp2⟩ := someP_t.1 hp
  have hne := refL_ne hp1 hp2
  rw [okW_ref hs fun x hx => (idx_in s x hx).1, decide_eq_false_iff_not] at h
  exfalso
  apply h
  cases hL : refL (plainP s) with
  | nil => exact absurd hL hne
  | cons t L =>
   have hm : t ∈ refL (plainP s) := by rw [hL]; simp
   have ht := mem_refL.1 hm
   have hm2 : t ∈ refT s (inL (idxL s)) := by
    refine mem_refT.2 ⟨⟨ht.rt.len, ht.rt.bd, ht.rt.fall⟩, ⟨ht.gt.len, ht.gt.low⟩, ?_, ht.fits⟩
    refine soP_iff.2 fun i hi hb => ?_
    exfalso
    unfold inL at hb
    rw [decide_eq_false_iff_not] at hb
    exact hb (by unfold idxL; rw [mem_upto]; omega)
   intro he
   rw [he] at hm2
   cases hm2
theorem L11 (s : Su) (bits : Int) (hb : 0 ≤ bits ∧ bits ≤ 255) : F11 ((s, bits, ()) : Su × Int × Unit) = some (true, ()) := by
 obtain ⟨b, rfl⟩ := Int.eq_ofNat_of_zero_le hb.1
 refine N11 _ _ ?_
 rw [L35, L40]
 simp only [Option.bind_some]
 cases hv : validP s with
 | false =>
  have h0 := validP_f hv
  have hw : wrongP s = ([], (chkP s).2.2.1, ()) := if_neg h0
  rw [hw, nbqf h0]
  exact awake_end rfl
 | true =>
  have hs := validP_t.1 hv
  have h0 := (chkP_ok s).2 hs
  have h3 := hs.t3
  simp only [Bool.not_true, cond_false]
  have hsub : (numsL (b.testBit ·) s.2.2.2.1.length).Sublist (idxL s) := by
   have h1 := selB_sub (idxL s) b
   rwa [idx_len, sel_nums s b _ (Nat.le_refl _)] at h1
  have fin : Ev fun k => T11_0 (b : Int) (wrongP s).1 (wrongP s).2.1 (s.2.2.2.1.length : Int) s (numsL (b.testBit ·) s.2.2.2.1.length) k = some (true, ()) := by
   refine R11_0 _ _ _ _ _ _ ?_
   have hlen := numsL_len (b.testBit ·) s.2.2.2.1.length
   have hpos : ∀ x ∈ numsL (b.testBit ·) s.2.2.2.1.length, 0 ≤ x := fun x hx => (idx_in s x (hsub.subset hx)).1
   generalize numsL (b.testBit ·) s.2.2.2.1.length = other at *
   rw [dec_f (by omega), L48 hs _ (by omega)]
   simp only [cond_false, Option.bind_some]
   rw [len_ref hs hpos]
   rcases wrong_best h0 with ⟨r, e, hbst⟩ | ⟨e, hn⟩
   ·rw [e]
    have hr := hbst.is.1
    have hrl : r.length ≤ s.2.2.2.1.length := by have := hr.length_le; rwa [idx_len] at this
    have hrp : ∀ x ∈ r, 0 ≤ x := fun x hx => (idx_in s x (hr.subset hx)).1
    simp only [bne_self_eq_false, cond_false]
    rw [L52 r s.2.2.2.1.length (by omega) (by omega), rising_of ((upto_pair _ _).sublist hr) (fun x hx => idx_in s x (hr.subset hx)), L48 hs r (by omega)]
    simp only [cond_true, Option.bind_some]
    rw [len_ref hs hrp, hbst.is.2]
    simp only [cond_true]
    cases hok : okW s other with
    | false => exact awake_end rfl
    | true =>
     rw [L53 other r (by omega)]
     have hf : fewerP other r = false := by
      cases hq : fewerP other r with
      | false => rfl
      | true =>
       exfalso
       refine hbst.first other ⟨hsub, hok⟩ ?_
       unfold fewerP at hq
       rw [Bool.or_eq_true, Bool.and_eq_true, decide_eq_true_eq, decide_eq_true_eq, beq_iff_eq] at hq
       rcases hq with h | ⟨h1, h2⟩
       ·exact .inl h
       ·exact .inr ⟨h1, (cmpL_lt h1).1 h2⟩
     rw [hf]
     exact awake_end rfl
   ·rw [e, hn _ hsub, L51]
    simp only [Option.bind_some]
    rw [L47, plain_none hs (hn _ (List.Sublist.refl _))]
    exact awake_end rfl
  have key : ∀ (c i : Nat), i + c = s.2.2.2.1.length → Ev fun k => T11_0 (b : Int) (wrongP s).1 (wrongP s).2.1 (i : Int) s (numsL (b.testBit ·) i) k = some (true, ()) := by
   intro c
   induction c with
   | zero =>
    intro i hi
    obtain rfl : i = s.2.2.2.1.length := by omega
    exact fin
   | succ c ih =>
    intro i hi
    have ih := ih (i + 1) (by omega)
    have hlen := numsL_len (b.testBit ·) i
    rw [numsL_succ] at ih
    generalize numsL (b.testBit ·) i = P at ih hlen
    refine R11_0 _ _ _ _ _ _ ?_
    rw [dec_t (show (i : Int) < (s.2.2.2.1.length : Int) by omega), wrap_id (x := (b : Int)) (by omega) (by omega), L50 b i (by omega) (by omega), one_set, dec_t (show P.length + [(i : Int)].length ≤ 2147483648 by simp only [List.length_cons, List.length_nil]; omega), wrap_succ (n := i) (by omega)]
    simp only [cond_true, Option.bind_some]
    cases ht : b.testBit i with
    | true => rw [ht, if_pos rfl] at ih; exact ih
    | false => rw [ht, if_neg (by simp)] at ih; exact ih
  exact key s.2.2.2.1.length 0 (by omega)
end Go.Proofs.Ytkhhbpocmmmnmaa
