/- What stands at the cuts of the closure that goes through all truths, for each function that does. Conditions: as each lemma states. (Printed by dfs.py.) -/
import Derived.Test.YtkbephbhajplhaaDoorCyT
import Derived.Test.YtkbephbhajplhaaDoorCyL
namespace Go.Proofs.YtkbephbhajplhaaDoor
open Go Go.Gh Go.Proofs
theorem eqDs_nil (t : Ty) : eqDs t [] [] = true := by simp [eqDs]
theorem eqDs_r (t : Ty) (y : den t) (ys : List (den t)) : eqDs t [] (y :: ys) = false := by simp [eqDs]
theorem eqDs_l (t : Ty) (y : den t) (ys : List (den t)) : eqDs t (y :: ys) [] = false := by simp [eqDs]
theorem eqDs_c (t : Ty) (x : den t) (xs : List (den t)) (y : den t) (ys : List (den t)) : eqDs t (x :: xs) (y :: ys) = (eqD t x y && eqDs t xs ys) := by simp [eqDs]
theorem eqArr : ∀ (a b : List Int), eqDs (Ty.int IntKind.i64) a b = decide (a = b)
 | [], [] => eqDs_nil _
 | [], _ :: _ => (eqDs_r (Ty.int IntKind.i64) _ _).trans (dec_f (by simp)).symm
 | _ :: _, [] => (eqDs_l (Ty.int IntKind.i64) _ _).trans (dec_f (by simp)).symm
 | x :: xs, y :: ys => by
  have h := eqArr xs ys
  refine (eqDs_c (Ty.int IntKind.i64) x xs y ys).trans ?_
  rw [h, Bool.eq_iff_iff, Bool.and_eq_true, decide_eq_true_eq, decide_eq_true_eq, List.cons.injEq]
  simp [eqD]
theorem eqArr7 (a b : List Int) : eqD (Ty.arr 7 (Ty.int IntKind.i64)) a b = decide (a = b) := by
 rw [← eqArr a b]
 simp only [eqD]
theorem bit_no (k i : Nat) (hk : k < 1000000000000) (hi : i ≤ 64) : (bitF BinOp.and IntKind.i64 (Int.fdiv (k : Int) (2 ^ min i 64)) 1 == 0) = !k.testBit i := by
 rw [← bit_ok k i hk hi, fdiv_pow k i hi]
 have hq : k / 2 ^ i ≤ k := Nat.div_le_self _ _
 generalize k / 2 ^ i = q at *
 have e2 : bitF BinOp.and IntKind.i64 (q : Int) 1 = ((q % 2 : Nat) : Int) := by
  show IntKind.wrap IntKind.i64 _ = _
  have : ((BitVec.ofInt (IntKind.bits IntKind.i64) (q : Int)) &&& (BitVec.ofInt (IntKind.bits IntKind.i64) 1)).toNat = q % 2 := by
   show ((BitVec.ofInt 64 (q : Int)) &&& (BitVec.ofInt 64 1)).toNat = q % 2
   have e3 : BitVec.ofInt 64 (q : Int) = BitVec.ofNat 64 q := by simp
   rw [e3, BitVec.toNat_and]
   simp only [BitVec.toNat_ofNat, BitVec.toNat_ofInt]
   have e4 : (1 : Int) % ((2 ^ 64 : Nat) : Int) = 1 := by decide
   rw [e4]
   rw [Nat.mod_eq_of_lt (by omega)]
   exact Nat.and_one_is_mod q
  rw [this]
  exact wrap_id (by omega) (by omega)
 rw [e2]
 have h2 : q % 2 = 0 ∨ q % 2 = 1 := by omega
 rcases h2 with h | h <;> simp [h]
theorem not_gap (g : Sp) (x : Int) : (decide (x < g.1) || decide (x > g.2.1)) = !inGap g x := by
 unfold inGap
 rw [Bool.eq_iff_iff]
 simp only [Bool.or_eq_true, decide_eq_true_eq, Bool.not_eq_true', Bool.and_eq_false_iff, decide_eq_false_iff_not]
 omega
abbrev hn (s : Se) (but : Nat) : Option Sb := some (s, (but : Int), ())
noncomputable def a0_107s122 (s : Se) (but : Nat) (i : Nat) (C : Bool) (t l : List Int) (y : R107s122) : Prop := Ev fun k => T107s122_0 (i : Int) C (hn s but) (hn s but) t l k = some y
noncomputable def a1_107s122 (s : Se) (but : Nat) (i : Nat) (v : Int) (C : Bool) (t l : List Int) (b : Bool) (y : R107s122) : Prop := Ev fun k => T107s122_1 (i : Int) v C (hn s but) (hn s but) t l b k = some y
noncomputable def a2_107s122 (s : Se) (but : Nat) (l4 : Int) (m : Nat) (C : Bool) (t : List Int) (b : Bool) (y : R107s122) : Prop := Ev fun k => T107s122_2 l4 (s.1.length : Int) (m : Int) C (hn s but) (hn s but) t t b ((topsP s.1.length t : Nat) : Int) k = some y
noncomputable def a3_107s122 (s : Se) (but : Nat) (i : Nat) (v : Int) (m : Nat) (C : Bool) (t l : List Int) (b : Bool) (y : R107s122) : Prop := Ev fun k => T107s122_3 (i : Int) v s.2.1 (s.2.1.length : Int) (m : Int) C (hn s but) (hn s but) t l b k = some y
def p_107s122 (s : Se) (but : Nat) (ok : Bool) (C : Bool) (t l : List Int) : R107s122 := ((ok, ()), C, ((if ok = true then 0 else 1 : Nat), (), ()), (hn s but), (), (((hn s but), ()), ()), t, l, u8, ())
section
variable {s : Se} {but : Nat} {C : Bool} {t l : List Int} {b : Bool} {y : R107s122}
theorem node_107s122 {i : Nat} (hi : i < s.1.length) (h : a1_107s122 s but i (s.1.getD i sp0).1 C t l false y) : a0_107s122 s but i C t l y := by
 refine U107s122_0 _ _ _ _ _ _ (Ev.eq (fun _ => Q107s122_0 _ _ _ _ _ _ _ _) ?_)
 simp only [Option.bind_some]
 rw [dec_t (show (i : Int) < (s.1.length : Int) by omega), dec_t (show (0 : Int) ≤ (i : Int) by omega), Int.toNat_natCast]
 simp only [Bool.and_self, cond_true]
 exact h
theorem leaf_107s122 (hs : VS s) (hne : t ≠ l) (h : a2_107s122 s but (-1) 0 C t false y) : a0_107s122 s but s.1.length C t l y := by
 refine U107s122_0 _ _ _ _ _ _ (Ev.eq (fun _ => Q107s122_0 _ _ _ _ _ _ _ _) ?_)
 simp only [Option.bind_some]
 rw [dec_f (show ¬ ((s.1.length : Int) < (s.1.length : Int)) by omega), show eqD (Ty.arr 7 (Ty.int IntKind.i64)) t l = false from (eqArr7 t l).trans (dec_f hne), L96 s but t hs.lo hs.hi]
 simp only [cond_false, Option.bind_some]
 exact h
theorem done_107s122 {i : Nat} {v : Int} (hi : i < s.1.length) (h : (s.1.getD i sp0).2.1 < v) : a1_107s122 s but i v C t l b (p_107s122 s but true C t l) := by
 refine U107s122_1 _ _ _ _ _ _ _ _ (Ev.eq (fun _ => Q107s122_1 _ _ _ _ _ _ _ _ _ _) ?_)
 simp only [Option.bind_some]
 rw [dec_t (show (i : Int) < (s.1.length : Int) by omega), dec_t (show (0 : Int) ≤ (i : Int) by omega), Int.toNat_natCast, show s.1.getD i (0, 0, ()) = s.1.getD i sp0 from rfl, dec_f (show ¬ v ≤ (s.1.getD i sp0).2.1 by omega)]
 simp only [Bool.and_self, cond_true, cond_false]
 exact Ev.all fun _ => rfl
theorem val_107s122 {i : Nat} {v : Int} (hs : VS s) (hi : i < s.1.length) (hv : v ≤ (s.1.getD i sp0).2.1) (h : a3_107s122 s but i v 0 C (t.set i v) l b y) : a1_107s122 s but i v C t l b y := by
 have h7 := hs.hi
 refine U107s122_1 _ _ _ _ _ _ _ _ (Ev.eq (fun _ => Q107s122_1 _ _ _ _ _ _ _ _ _ _) ?_)
 simp only [Option.bind_some]
 rw [dec_t (show (i : Int) < (s.1.length : Int) by omega), dec_t (show (0 : Int) ≤ (i : Int) by omega), Int.toNat_natCast, show s.1.getD i (0, 0, ()) = s.1.getD i sp0 from rfl, dec_t hv, dec_t (show (i : Int) < 7 by omega), dec_t (show i < 7 by omega)]
 simp only [Bool.and_self, cond_true]
 exact h
theorem sum_107s122 {i : Nat} {v : Int} {m : Nat} (hs : VS s) (hbut : but < 1000000000000) (_ : i < s.1.length) (hv : 0 ≤ v ∧ v ≤ 99) (hm : m < s.2.1.length) (ht : Good t) (h : if denS s but t i m = true then a1_107s122 s but i (v + 1) C t l b y else a3_107s122 s but i v (m + 1) C t l b y) : a3_107s122 s but i v m C t l b y := by
 have h7 := hs.hi
 have hsm := hs.sums m hm
 have h4 := hs.many
 refine U107s122_3 _ _ _ _ _ _ _ _ _ _ _ (Ev.eq (fun _ => Q107s122_3 _ _ _ _ _ _ _ _ _ _ _ _ _) ?_)
 simp only [Option.bind_some]
 rw [dec_t (show (m : Int) < (s.2.1.length : Int) by omega), dec_t (show (0 : Int) ≤ (m : Int) by omega), Int.toNat_natCast, dec_f (show ¬ ((m : Int) < 0) by omega), bit_no but m hbut (by omega), wrap_succ (n := m) (by omega), wrap_id (x := v + 1) (by omega) (by omega), show s.2.1.getD m (0, 0, (0, 0, ()), ()) = s.2.1.getD m sm0 from rfl]
 simp only [Bool.and_self, cond_true, cond_false]
 unfold denS at h
 cases hu : ((s.2.1.getD m sm0).2.1 == (i : Int)) with
 | false =>
  rw [hu] at h
  simp only [Bool.false_and, Bool.false_eq_true, if_false] at h
  simp only [cond_false]
  exact h
 | true =>
  rw [hu] at h
  simp only [Bool.true_and] at h
  simp only [cond_true]
  cases hb : but.testBit m with
  | true =>
   rw [hb] at h
   simp only [Bool.not_true, Bool.false_and, Bool.false_eq_true, if_false] at h
   simp only [Bool.not_true, cond_false]
   exact h
  | false =>
   rw [hb] at h
   simp only [Bool.not_false, Bool.true_and] at h
   have hu' : (s.2.1.getD m sm0).2.1 = (i : Int) := by simpa using hu
   have e1 : (s.2.1.getD m sm0).1 = (((s.2.1.getD m sm0).1.toNat : Nat) : Int) := by omega
   have hF : F120 ((t, (s.2.1.getD m sm0).1, (i : Int), ()) : List Int × Int × Int × Unit) = some (sumL t (s.2.1.getD m sm0).1.toNat i, ()) := by
    rw [e1]
    simp only [Int.toNat_natCast]
    exact L120 ht _ _ (by omega) (by omega)
   simp only [Bool.not_false, cond_true]
   rw [hF]
   simp only [Option.bind_some]
   rw [L84_1]
   simp only [Option.bind_some]
   cases hd : (decide (sumL t (s.2.1.getD m sm0).1.toNat i < (s.2.1.getD m sm0).2.2.1.1) || decide (sumL t (s.2.1.getD m sm0).1.toNat i > (s.2.1.getD m sm0).2.2.1.2.1)) with
   | true => rw [hd, if_pos rfl] at h; exact h
   | false => rw [hd] at h; simp only [Bool.false_eq_true, if_false] at h; exact h
theorem call_107s122 {i : Nat} {v : Int} {ok : Bool} {C' : Bool} {t' l' : List Int} (hs : VS s) (hi : i < s.1.length) (hv : 0 ≤ v ∧ v ≤ 99) (h : a0_107s122 s but (i + 1) C t l (p_107s122 s but ok C' t' l')) (ht : ok = true → a1_107s122 s but i (v + 1) C' t' l' b y) (hf : ok = false → y = p_107s122 s but false C' t' l') :
  a3_107s122 s but i v s.2.1.length C t l b y := by
 have h7 := hs.hi
 refine U107s122_3 _ _ _ _ _ _ _ _ _ _ _ (Ev.eq (fun _ => Q107s122_3 _ _ _ _ _ _ _ _ _ _ _ _ _) ?_)
 rw [dec_f (show ¬ ((s.2.1.length : Int) < (s.2.1.length : Int)) by omega), wrap_succ (n := i) (by omega), wrap_id (x := v + 1) (by omega) (by omega)]
 simp only [cond_false]
 refine Ev.sub h ?_
 cases ok with
 | true => exact ht rfl
 | false =>
  rw [hf rfl]
  exact Ev.all fun _ => rfl
theorem top_107s122 {l4 : Int} {m : Nat} (hs : VS s) (hm : m < s.1.length) (h1 : -1 ≤ l4) (h2 : l4 ≤ 7) (h : if isTop s.1.length t m = true then (if (decide (l4 < 0) || inGap s.2.2.1 ((m : Int) - l4)) = true then a2_107s122 s but m (m + 1) C t b y else y = p_107s122 s but true C t t) else a2_107s122 s but l4 (m + 1) C t b y) : a2_107s122 s but l4 m C t b y := by
 have h7 := hs.hi
 have hlt := topsP_lt s.1.length t
 have h128 : 2 ^ s.1.length ≤ 128 := Nat.pow_le_pow_right (by decide) (show s.1.length ≤ 7 from h7)
 refine U107s122_2 _ _ _ _ _ _ _ _ _ _ (Ev.eq (fun _ => Q107s122_2 _ _ _ _ _ _ _ _ _ _ _ _) ?_)
 simp only [Option.bind_some]
 rw [dec_t (show (m : Int) < (s.1.length : Int) by omega), dec_f (show ¬ ((m : Int) < 0) by omega), Int.toNat_natCast, bit_no _ m (by omega) (by omega), topsP_bit, wrap_succ (n := m) (by omega), wrap_id (x := (m : Int) - l4) (by omega) (by omega), L84_1, not_gap]
 simp only [cond_true, cond_false, Option.bind_some]
 cases ht : isTop s.1.length t m with
 | false =>
  rw [ht] at h
  simp only [Bool.false_eq_true, if_false] at h
  simp only [Bool.not_false, cond_true]
  exact h
 | true =>
  rw [ht, if_pos rfl] at h
  simp only [Bool.not_true, cond_false]
  by_cases h4 : l4 ≥ 0
  ·rw [dec_t h4]
   rw [dec_f (show ¬ l4 < 0 by omega), Bool.false_or] at h
   simp only [cond_true]
   cases hg : inGap s.2.2.1 ((m : Int) - l4) with
   | true => rw [hg, if_pos rfl] at h; exact h
   | false =>
    rw [hg] at h
    simp only [Bool.false_eq_true, if_false] at h
    rw [h]
    exact Ev.all fun _ => rfl
  ·rw [dec_f h4]
   rw [dec_t (show l4 < 0 by omega), Bool.true_or, if_pos rfl] at h
   exact h
end
noncomputable def dfs_107s122 (s : Se) (but : Nat) (hs : VS s) (hbut : but < 1000000000000) (step : Bool → List Int → Bool × Bool) (hfin : ∀ {l4 : Int} {C : Bool} {t : List Int} {b : Bool}, Good t → a2_107s122 s but l4 s.1.length C t b (p_107s122 s but (step C t).2 (step C t).1 t t)) : Dfs (Bool) (R107s122) s but step where
 A0 := a0_107s122 s but
 A1 := a1_107s122 s but
 A2 := a2_107s122 s but
 A3 := a3_107s122 s but
 P := p_107s122 s but
 node := node_107s122
 leaf := fun h _ h2 => leaf_107s122 hs h h2
 done := done_107s122
 val := fun h1 h2 h3 => val_107s122 hs h1 h2 h3
 pass := fun h1 h2 h3 h4 h5 h6 h7 => sum_107s122 hs hbut h1 ⟨h3, h2⟩ h4 h5 (by rw [h6]; simpa using h7)
 deny := fun h1 h2 h3 h4 h5 h6 h7 => sum_107s122 hs hbut h1 ⟨h3, h2⟩ h4 h5 (by rw [if_pos h6]; exact h7)
 call := fun h1 h2 h3 h4 h5 h6 => call_107s122 hs h1 ⟨h3, h2⟩ h4 h5 h6
 skip := fun h1 h2 h3 h4 h5 => top_107s122 hs h1 h3 h4 (by rw [h2]; simpa using h5)
 near := fun h1 h2 h3 h4 h5 h6 => top_107s122 hs h1 h3 h4 (by rw [if_pos h2, if_pos h5]; exact h6)
 far := fun h1 h2 h3 h4 h5 => top_107s122 hs h1 h3 h4 (by rw [if_pos h2, h5]; rfl)
 fin := fun h => hfin h
noncomputable def a0_89s122 (s : Se) (but : Nat) (p q : Nat) (x0 : Sp) (i : Nat) (C : Sp) (t l : List Int) (y : R89s122) : Prop := Ev fun k => T89s122_0 (i : Int) (p : Int) (q : Int) x0 C (hn s but) (hn s but) t l k = some y
noncomputable def a1_89s122 (s : Se) (but : Nat) (p q : Nat) (x0 : Sp) (i : Nat) (v : Int) (C : Sp) (t l : List Int) (b : Bool) (y : R89s122) : Prop := Ev fun k => T89s122_1 (i : Int) v (p : Int) (q : Int) x0 C (hn s but) (hn s but) t l b k = some y
noncomputable def a2_89s122 (s : Se) (but : Nat) (p q : Nat) (x0 : Sp) (l4 : Int) (m : Nat) (C : Sp) (t : List Int) (b : Bool) (y : R89s122) : Prop := Ev fun k => T89s122_2 l4 (s.1.length : Int) (m : Int) (p : Int) (q : Int) x0 C (hn s but) (hn s but) t t b ((topsP s.1.length t : Nat) : Int) k = some y
noncomputable def a3_89s122 (s : Se) (but : Nat) (p q : Nat) (x0 : Sp) (i : Nat) (v : Int) (m : Nat) (C : Sp) (t l : List Int) (b : Bool) (y : R89s122) : Prop := Ev fun k => T89s122_3 (i : Int) v s.2.1 (s.2.1.length : Int) (m : Int) (p : Int) (q : Int) x0 C (hn s but) (hn s but) t l b k = some y
def p_89s122 (s : Se) (but : Nat) (p q : Nat) (x0 : Sp) (ok : Bool) (C : Sp) (t l : List Int) : R89s122 := ((ok, ()), (p : Int), (q : Int), x0, C, ((if ok = true then 0 else 0 : Nat), (), (), (), ()), (hn s but), (), (((hn s but), ()), ()), t, l, u8, ())
section
variable {s : Se} {but : Nat} {p q : Nat} {x0 : Sp} {C : Sp} {t l : List Int} {b : Bool} {y : R89s122}
theorem node_89s122 {i : Nat} (hi : i < s.1.length) (h : a1_89s122 s but p q x0 i (s.1.getD i sp0).1 C t l false y) : a0_89s122 s but p q x0 i C t l y := by
 refine U89s122_0 _ _ _ _ _ _ _ _ _ (Ev.eq (fun _ => Q89s122_0 _ _ _ _ _ _ _ _ _ _ _) ?_)
 simp only [Option.bind_some]
 rw [dec_t (show (i : Int) < (s.1.length : Int) by omega), dec_t (show (0 : Int) ≤ (i : Int) by omega), Int.toNat_natCast]
 simp only [Bool.and_self, cond_true]
 exact h
theorem leaf_89s122 (hs : VS s) (hne : t ≠ l) (h : a2_89s122 s but p q x0 (-1) 0 C t false y) : a0_89s122 s but p q x0 s.1.length C t l y := by
 refine U89s122_0 _ _ _ _ _ _ _ _ _ (Ev.eq (fun _ => Q89s122_0 _ _ _ _ _ _ _ _ _ _ _) ?_)
 simp only [Option.bind_some]
 rw [dec_f (show ¬ ((s.1.length : Int) < (s.1.length : Int)) by omega), show eqD (Ty.arr 7 (Ty.int IntKind.i64)) t l = false from (eqArr7 t l).trans (dec_f hne), L96 s but t hs.lo hs.hi]
 simp only [cond_false, Option.bind_some]
 exact h
theorem done_89s122 {i : Nat} {v : Int} (hi : i < s.1.length) (h : (s.1.getD i sp0).2.1 < v) : a1_89s122 s but p q x0 i v C t l b (p_89s122 s but p q x0 true C t l) := by
 refine U89s122_1 _ _ _ _ _ _ _ _ _ _ _ (Ev.eq (fun _ => Q89s122_1 _ _ _ _ _ _ _ _ _ _ _ _ _) ?_)
 simp only [Option.bind_some]
 rw [dec_t (show (i : Int) < (s.1.length : Int) by omega), dec_t (show (0 : Int) ≤ (i : Int) by omega), Int.toNat_natCast, show s.1.getD i (0, 0, ()) = s.1.getD i sp0 from rfl, dec_f (show ¬ v ≤ (s.1.getD i sp0).2.1 by omega)]
 simp only [Bool.and_self, cond_true, cond_false]
 exact Ev.all fun _ => rfl
theorem val_89s122 {i : Nat} {v : Int} (hs : VS s) (hi : i < s.1.length) (hv : v ≤ (s.1.getD i sp0).2.1) (h : a3_89s122 s but p q x0 i v 0 C (t.set i v) l b y) : a1_89s122 s but p q x0 i v C t l b y := by
 have h7 := hs.hi
 refine U89s122_1 _ _ _ _ _ _ _ _ _ _ _ (Ev.eq (fun _ => Q89s122_1 _ _ _ _ _ _ _ _ _ _ _ _ _) ?_)
 simp only [Option.bind_some]
 rw [dec_t (show (i : Int) < (s.1.length : Int) by omega), dec_t (show (0 : Int) ≤ (i : Int) by omega), Int.toNat_natCast, show s.1.getD i (0, 0, ()) = s.1.getD i sp0 from rfl, dec_t hv, dec_t (show (i : Int) < 7 by omega), dec_t (show i < 7 by omega)]
 simp only [Bool.and_self, cond_true]
 exact h
theorem sum_89s122 {i : Nat} {v : Int} {m : Nat} (hs : VS s) (hbut : but < 1000000000000) (_ : i < s.1.length) (hv : 0 ≤ v ∧ v ≤ 99) (hm : m < s.2.1.length) (ht : Good t) (h : if denS s but t i m = true then a1_89s122 s but p q x0 i (v + 1) C t l b y else a3_89s122 s but p q x0 i v (m + 1) C t l b y) : a3_89s122 s but p q x0 i v m C t l b y := by
 have h7 := hs.hi
 have hsm := hs.sums m hm
 have h4 := hs.many
 refine U89s122_3 _ _ _ _ _ _ _ _ _ _ _ _ _ _ (Ev.eq (fun _ => Q89s122_3 _ _ _ _ _ _ _ _ _ _ _ _ _ _ _ _) ?_)
 simp only [Option.bind_some]
 rw [dec_t (show (m : Int) < (s.2.1.length : Int) by omega), dec_t (show (0 : Int) ≤ (m : Int) by omega), Int.toNat_natCast, dec_f (show ¬ ((m : Int) < 0) by omega), bit_no but m hbut (by omega), wrap_succ (n := m) (by omega), wrap_id (x := v + 1) (by omega) (by omega), show s.2.1.getD m (0, 0, (0, 0, ()), ()) = s.2.1.getD m sm0 from rfl]
 simp only [Bool.and_self, cond_true, cond_false]
 unfold denS at h
 cases hu : ((s.2.1.getD m sm0).2.1 == (i : Int)) with
 | false =>
  rw [hu] at h
  simp only [Bool.false_and, Bool.false_eq_true, if_false] at h
  simp only [cond_false]
  exact h
 | true =>
  rw [hu] at h
  simp only [Bool.true_and] at h
  simp only [cond_true]
  cases hb : but.testBit m with
  | true =>
   rw [hb] at h
   simp only [Bool.not_true, Bool.false_and, Bool.false_eq_true, if_false] at h
   simp only [Bool.not_true, cond_false]
   exact h
  | false =>
   rw [hb] at h
   simp only [Bool.not_false, Bool.true_and] at h
   have hu' : (s.2.1.getD m sm0).2.1 = (i : Int) := by simpa using hu
   have e1 : (s.2.1.getD m sm0).1 = (((s.2.1.getD m sm0).1.toNat : Nat) : Int) := by omega
   have hF : F120 ((t, (s.2.1.getD m sm0).1, (i : Int), ()) : List Int × Int × Int × Unit) = some (sumL t (s.2.1.getD m sm0).1.toNat i, ()) := by
    rw [e1]
    simp only [Int.toNat_natCast]
    exact L120 ht _ _ (by omega) (by omega)
   simp only [Bool.not_false, cond_true]
   rw [hF]
   simp only [Option.bind_some]
   rw [L84_1]
   simp only [Option.bind_some]
   cases hd : (decide (sumL t (s.2.1.getD m sm0).1.toNat i < (s.2.1.getD m sm0).2.2.1.1) || decide (sumL t (s.2.1.getD m sm0).1.toNat i > (s.2.1.getD m sm0).2.2.1.2.1)) with
   | true => rw [hd, if_pos rfl] at h; exact h
   | false => rw [hd] at h; simp only [Bool.false_eq_true, if_false] at h; exact h
theorem call_89s122 {i : Nat} {v : Int} {ok : Bool} {C' : Sp} {t' l' : List Int} (hs : VS s) (hi : i < s.1.length) (hv : 0 ≤ v ∧ v ≤ 99) (h : a0_89s122 s but p q x0 (i + 1) C t l (p_89s122 s but p q x0 ok C' t' l')) (ht : ok = true → a1_89s122 s but p q x0 i (v + 1) C' t' l' b y) (hf : ok = false → y = p_89s122 s but p q x0 false C' t' l') :
  a3_89s122 s but p q x0 i v s.2.1.length C t l b y := by
 have h7 := hs.hi
 refine U89s122_3 _ _ _ _ _ _ _ _ _ _ _ _ _ _ (Ev.eq (fun _ => Q89s122_3 _ _ _ _ _ _ _ _ _ _ _ _ _ _ _ _) ?_)
 rw [dec_f (show ¬ ((s.2.1.length : Int) < (s.2.1.length : Int)) by omega), wrap_succ (n := i) (by omega), wrap_id (x := v + 1) (by omega) (by omega)]
 simp only [cond_false]
 refine Ev.sub h ?_
 cases ok with
 | true => exact ht rfl
 | false =>
  rw [hf rfl]
  exact Ev.all fun _ => rfl
theorem top_89s122 {l4 : Int} {m : Nat} (hs : VS s) (hm : m < s.1.length) (h1 : -1 ≤ l4) (h2 : l4 ≤ 7) (h : if isTop s.1.length t m = true then (if (decide (l4 < 0) || inGap s.2.2.1 ((m : Int) - l4)) = true then a2_89s122 s but p q x0 m (m + 1) C t b y else y = p_89s122 s but p q x0 true C t t) else a2_89s122 s but p q x0 l4 (m + 1) C t b y) : a2_89s122 s but p q x0 l4 m C t b y := by
 have h7 := hs.hi
 have hlt := topsP_lt s.1.length t
 have h128 : 2 ^ s.1.length ≤ 128 := Nat.pow_le_pow_right (by decide) (show s.1.length ≤ 7 from h7)
 refine U89s122_2 _ _ _ _ _ _ _ _ _ _ _ _ _ (Ev.eq (fun _ => Q89s122_2 _ _ _ _ _ _ _ _ _ _ _ _ _ _ _) ?_)
 simp only [Option.bind_some]
 rw [dec_t (show (m : Int) < (s.1.length : Int) by omega), dec_f (show ¬ ((m : Int) < 0) by omega), Int.toNat_natCast, bit_no _ m (by omega) (by omega), topsP_bit, wrap_succ (n := m) (by omega), wrap_id (x := (m : Int) - l4) (by omega) (by omega), L84_1, not_gap]
 simp only [cond_true, cond_false, Option.bind_some]
 cases ht : isTop s.1.length t m with
 | false =>
  rw [ht] at h
  simp only [Bool.false_eq_true, if_false] at h
  simp only [Bool.not_false, cond_true]
  exact h
 | true =>
  rw [ht, if_pos rfl] at h
  simp only [Bool.not_true, cond_false]
  by_cases h4 : l4 ≥ 0
  ·rw [dec_t h4]
   rw [dec_f (show ¬ l4 < 0 by omega), Bool.false_or] at h
   simp only [cond_true]
   cases hg : inGap s.2.2.1 ((m : Int) - l4) with
   | true => rw [hg, if_pos rfl] at h; exact h
   | false =>
    rw [hg] at h
    simp only [Bool.false_eq_true, if_false] at h
    rw [h]
    exact Ev.all fun _ => rfl
  ·rw [dec_f h4]
   rw [dec_t (show l4 < 0 by omega), Bool.true_or, if_pos rfl] at h
   exact h
end
noncomputable def dfs_89s122 (s : Se) (but : Nat) (p q : Nat) (x0 : Sp) (hs : VS s) (hbut : but < 1000000000000) (step : Sp → List Int → Sp × Bool) (hfin : ∀ {l4 : Int} {C : Sp} {t : List Int} {b : Bool}, Good t → a2_89s122 s but p q x0 l4 s.1.length C t b (p_89s122 s but p q x0 (step C t).2 (step C t).1 t t)) : Dfs (Sp) (R89s122) s but step where
 A0 := a0_89s122 s but p q x0
 A1 := a1_89s122 s but p q x0
 A2 := a2_89s122 s but p q x0
 A3 := a3_89s122 s but p q x0
 P := p_89s122 s but p q x0
 node := node_89s122
 leaf := fun h _ h2 => leaf_89s122 hs h h2
 done := done_89s122
 val := fun h1 h2 h3 => val_89s122 hs h1 h2 h3
 pass := fun h1 h2 h3 h4 h5 h6 h7 => sum_89s122 hs hbut h1 ⟨h3, h2⟩ h4 h5 (by rw [h6]; simpa using h7)
 deny := fun h1 h2 h3 h4 h5 h6 h7 => sum_89s122 hs hbut h1 ⟨h3, h2⟩ h4 h5 (by rw [if_pos h6]; exact h7)
 call := fun h1 h2 h3 h4 h5 h6 => call_89s122 hs h1 ⟨h3, h2⟩ h4 h5 h6
 skip := fun h1 h2 h3 h4 h5 => top_89s122 hs h1 h3 h4 (by rw [h2]; simpa using h5)
 near := fun h1 h2 h3 h4 h5 h6 => top_89s122 hs h1 h3 h4 (by rw [if_pos h2, if_pos h5]; exact h6)
 far := fun h1 h2 h3 h4 h5 => top_89s122 hs h1 h3 h4 (by rw [if_pos h2, h5]; rfl)
 fin := fun h => hfin h
noncomputable def a0_24s122 (s : Se) (but : Nat) (p : Nat) (i : Nat) (C : (Int × Int × Int)) (t l : List Int) (y : R24s122) : Prop := Ev fun k => T24s122_0 (i : Int) s (p : Int) C.1 C.2.1 (hn s but) C.2.2 (hn s but) (hn s but) t l k = some y
noncomputable def a1_24s122 (s : Se) (but : Nat) (p : Nat) (i : Nat) (v : Int) (C : (Int × Int × Int)) (t l : List Int) (b : Bool) (y : R24s122) : Prop := Ev fun k => T24s122_1 (i : Int) v s (p : Int) C.1 C.2.1 (hn s but) C.2.2 (hn s but) (hn s but) t l b k = some y
noncomputable def a2_24s122 (s : Se) (but : Nat) (p : Nat) (l4 : Int) (m : Nat) (C : (Int × Int × Int)) (t : List Int) (b : Bool) (y : R24s122) : Prop := Ev fun k => T24s122_2 l4 (s.1.length : Int) (m : Int) s (p : Int) C.1 C.2.1 (hn s but) C.2.2 (hn s but) (hn s but) t t b ((topsP s.1.length t : Nat) : Int) k = some y
noncomputable def a3_24s122 (s : Se) (but : Nat) (p : Nat) (i : Nat) (v : Int) (m : Nat) (C : (Int × Int × Int)) (t l : List Int) (b : Bool) (y : R24s122) : Prop := Ev fun k => T24s122_3 (i : Int) v s.2.1 (s.2.1.length : Int) (m : Int) s (p : Int) C.1 C.2.1 (hn s but) C.2.2 (hn s but) (hn s but) t l b k = some y
def p_24s122 (s : Se) (but : Nat) (p : Nat) (ok : Bool) (C : (Int × Int × Int)) (t l : List Int) : R24s122 := ((ok, ()), s, (p : Int), C.1, C.2.1, (hn s but), C.2.2, ((if ok = true then 0 else 0 : Nat), (), (), (), (), (), (), ()), (hn s but), (), (((hn s but), ()), ()), t, l, u8, ())
section
variable {s : Se} {but : Nat} {p : Nat} {C : (Int × Int × Int)} {t l : List Int} {b : Bool} {y : R24s122}
theorem node_24s122 {i : Nat} (hi : i < s.1.length) (h : a1_24s122 s but p i (s.1.getD i sp0).1 C t l false y) : a0_24s122 s but p i C t l y := by
 refine U24s122_0 _ _ _ _ _ _ _ _ _ _ _ (Ev.eq (fun _ => Q24s122_0 _ _ _ _ _ _ _ _ _ _ _ _ _) ?_)
 simp only [Option.bind_some]
 rw [dec_t (show (i : Int) < (s.1.length : Int) by omega), dec_t (show (0 : Int) ≤ (i : Int) by omega), Int.toNat_natCast]
 simp only [Bool.and_self, cond_true]
 exact h
theorem leaf_24s122 (hs : VS s) (hne : t ≠ l) (h : a2_24s122 s but p (-1) 0 C t false y) : a0_24s122 s but p s.1.length C t l y := by
 refine U24s122_0 _ _ _ _ _ _ _ _ _ _ _ (Ev.eq (fun _ => Q24s122_0 _ _ _ _ _ _ _ _ _ _ _ _ _) ?_)
 simp only [Option.bind_some]
 rw [dec_f (show ¬ ((s.1.length : Int) < (s.1.length : Int)) by omega), show eqD (Ty.arr 7 (Ty.int IntKind.i64)) t l = false from (eqArr7 t l).trans (dec_f hne), L96 s but t hs.lo hs.hi]
 simp only [cond_false, Option.bind_some]
 exact h
theorem done_24s122 {i : Nat} {v : Int} (hi : i < s.1.length) (h : (s.1.getD i sp0).2.1 < v) : a1_24s122 s but p i v C t l b (p_24s122 s but p true C t l) := by
 refine U24s122_1 _ _ _ _ _ _ _ _ _ _ _ _ _ (Ev.eq (fun _ => Q24s122_1 _ _ _ _ _ _ _ _ _ _ _ _ _ _ _) ?_)
 simp only [Option.bind_some]
 rw [dec_t (show (i : Int) < (s.1.length : Int) by omega), dec_t (show (0 : Int) ≤ (i : Int) by omega), Int.toNat_natCast, show s.1.getD i (0, 0, ()) = s.1.getD i sp0 from rfl, dec_f (show ¬ v ≤ (s.1.getD i sp0).2.1 by omega)]
 simp only [Bool.and_self, cond_true, cond_false]
 exact Ev.all fun _ => rfl
theorem val_24s122 {i : Nat} {v : Int} (hs : VS s) (hi : i < s.1.length) (hv : v ≤ (s.1.getD i sp0).2.1) (h : a3_24s122 s but p i v 0 C (t.set i v) l b y) : a1_24s122 s but p i v C t l b y := by
 have h7 := hs.hi
 refine U24s122_1 _ _ _ _ _ _ _ _ _ _ _ _ _ (Ev.eq (fun _ => Q24s122_1 _ _ _ _ _ _ _ _ _ _ _ _ _ _ _) ?_)
 simp only [Option.bind_some]
 rw [dec_t (show (i : Int) < (s.1.length : Int) by omega), dec_t (show (0 : Int) ≤ (i : Int) by omega), Int.toNat_natCast, show s.1.getD i (0, 0, ()) = s.1.getD i sp0 from rfl, dec_t hv, dec_t (show (i : Int) < 7 by omega), dec_t (show i < 7 by omega)]
 simp only [Bool.and_self, cond_true]
 exact h
theorem sum_24s122 {i : Nat} {v : Int} {m : Nat} (hs : VS s) (hbut : but < 1000000000000) (_ : i < s.1.length) (hv : 0 ≤ v ∧ v ≤ 99) (hm : m < s.2.1.length) (ht : Good t) (h : if denS s but t i m = true then a1_24s122 s but p i (v + 1) C t l b y else a3_24s122 s but p i v (m + 1) C t l b y) : a3_24s122 s but p i v m C t l b y := by
 have h7 := hs.hi
 have hsm := hs.sums m hm
 have h4 := hs.many
 refine U24s122_3 _ _ _ _ _ _ _ _ _ _ _ _ _ _ _ _ (Ev.eq (fun _ => Q24s122_3 _ _ _ _ _ _ _ _ _ _ _ _ _ _ _ _ _ _) ?_)
 simp only [Option.bind_some]
 rw [dec_t (show (m : Int) < (s.2.1.length : Int) by omega), dec_t (show (0 : Int) ≤ (m : Int) by omega), Int.toNat_natCast, dec_f (show ¬ ((m : Int) < 0) by omega), bit_no but m hbut (by omega), wrap_succ (n := m) (by omega), wrap_id (x := v + 1) (by omega) (by omega), show s.2.1.getD m (0, 0, (0, 0, ()), ()) = s.2.1.getD m sm0 from rfl]
 simp only [Bool.and_self, cond_true, cond_false]
 unfold denS at h
 cases hu : ((s.2.1.getD m sm0).2.1 == (i : Int)) with
 | false =>
  rw [hu] at h
  simp only [Bool.false_and, Bool.false_eq_true, if_false] at h
  simp only [cond_false]
  exact h
 | true =>
  rw [hu] at h
  simp only [Bool.true_and] at h
  simp only [cond_true]
  cases hb : but.testBit m with
  | true =>
   rw [hb] at h
   simp only [Bool.not_true, Bool.false_and, Bool.false_eq_true, if_false] at h
   simp only [Bool.not_true, cond_false]
   exact h
  | false =>
   rw [hb] at h
   simp only [Bool.not_false, Bool.true_and] at h
   have hu' : (s.2.1.getD m sm0).2.1 = (i : Int) := by simpa using hu
   have e1 : (s.2.1.getD m sm0).1 = (((s.2.1.getD m sm0).1.toNat : Nat) : Int) := by omega
   have hF : F120 ((t, (s.2.1.getD m sm0).1, (i : Int), ()) : List Int × Int × Int × Unit) = some (sumL t (s.2.1.getD m sm0).1.toNat i, ()) := by
    rw [e1]
    simp only [Int.toNat_natCast]
    exact L120 ht _ _ (by omega) (by omega)
   simp only [Bool.not_false, cond_true]
   rw [hF]
   simp only [Option.bind_some]
   rw [L84_1]
   simp only [Option.bind_some]
   cases hd : (decide (sumL t (s.2.1.getD m sm0).1.toNat i < (s.2.1.getD m sm0).2.2.1.1) || decide (sumL t (s.2.1.getD m sm0).1.toNat i > (s.2.1.getD m sm0).2.2.1.2.1)) with
   | true => rw [hd, if_pos rfl] at h; exact h
   | false => rw [hd] at h; simp only [Bool.false_eq_true, if_false] at h; exact h
theorem call_24s122 {i : Nat} {v : Int} {ok : Bool} {C' : (Int × Int × Int)} {t' l' : List Int} (hs : VS s) (hi : i < s.1.length) (hv : 0 ≤ v ∧ v ≤ 99) (h : a0_24s122 s but p (i + 1) C t l (p_24s122 s but p ok C' t' l')) (ht : ok = true → a1_24s122 s but p i (v + 1) C' t' l' b y) (hf : ok = false → y = p_24s122 s but p false C' t' l') :
  a3_24s122 s but p i v s.2.1.length C t l b y := by
 have h7 := hs.hi
 refine U24s122_3 _ _ _ _ _ _ _ _ _ _ _ _ _ _ _ _ (Ev.eq (fun _ => Q24s122_3 _ _ _ _ _ _ _ _ _ _ _ _ _ _ _ _ _ _) ?_)
 rw [dec_f (show ¬ ((s.2.1.length : Int) < (s.2.1.length : Int)) by omega), wrap_succ (n := i) (by omega), wrap_id (x := v + 1) (by omega) (by omega)]
 simp only [cond_false]
 refine Ev.sub h ?_
 cases ok with
 | true => exact ht rfl
 | false =>
  rw [hf rfl]
  exact Ev.all fun _ => rfl
theorem top_24s122 {l4 : Int} {m : Nat} (hs : VS s) (hm : m < s.1.length) (h1 : -1 ≤ l4) (h2 : l4 ≤ 7) (h : if isTop s.1.length t m = true then (if (decide (l4 < 0) || inGap s.2.2.1 ((m : Int) - l4)) = true then a2_24s122 s but p m (m + 1) C t b y else y = p_24s122 s but p true C t t) else a2_24s122 s but p l4 (m + 1) C t b y) : a2_24s122 s but p l4 m C t b y := by
 have h7 := hs.hi
 have hlt := topsP_lt s.1.length t
 have h128 : 2 ^ s.1.length ≤ 128 := Nat.pow_le_pow_right (by decide) (show s.1.length ≤ 7 from h7)
 refine U24s122_2 _ _ _ _ _ _ _ _ _ _ _ _ _ _ _ (Ev.eq (fun _ => Q24s122_2 _ _ _ _ _ _ _ _ _ _ _ _ _ _ _ _ _) ?_)
 simp only [Option.bind_some]
 rw [dec_t (show (m : Int) < (s.1.length : Int) by omega), dec_f (show ¬ ((m : Int) < 0) by omega), Int.toNat_natCast, bit_no _ m (by omega) (by omega), topsP_bit, wrap_succ (n := m) (by omega), wrap_id (x := (m : Int) - l4) (by omega) (by omega), L84_1, not_gap]
 simp only [cond_true, cond_false, Option.bind_some]
 cases ht : isTop s.1.length t m with
 | false =>
  rw [ht] at h
  simp only [Bool.false_eq_true, if_false] at h
  simp only [Bool.not_false, cond_true]
  exact h
 | true =>
  rw [ht, if_pos rfl] at h
  simp only [Bool.not_true, cond_false]
  by_cases h4 : l4 ≥ 0
  ·rw [dec_t h4]
   rw [dec_f (show ¬ l4 < 0 by omega), Bool.false_or] at h
   simp only [cond_true]
   cases hg : inGap s.2.2.1 ((m : Int) - l4) with
   | true => rw [hg, if_pos rfl] at h; exact h
   | false =>
    rw [hg] at h
    simp only [Bool.false_eq_true, if_false] at h
    rw [h]
    exact Ev.all fun _ => rfl
  ·rw [dec_f h4]
   rw [dec_t (show l4 < 0 by omega), Bool.true_or, if_pos rfl] at h
   exact h
end
noncomputable def dfs_24s122 (s : Se) (but : Nat) (p : Nat) (hs : VS s) (hbut : but < 1000000000000) (step : (Int × Int × Int) → List Int → (Int × Int × Int) × Bool) (hfin : ∀ {l4 : Int} {C : (Int × Int × Int)} {t : List Int} {b : Bool}, Good t → a2_24s122 s but p l4 s.1.length C t b (p_24s122 s but p (step C t).2 (step C t).1 t t)) : Dfs ((Int × Int × Int)) (R24s122) s but step where
 A0 := a0_24s122 s but p
 A1 := a1_24s122 s but p
 A2 := a2_24s122 s but p
 A3 := a3_24s122 s but p
 P := p_24s122 s but p
 node := node_24s122
 leaf := fun h _ h2 => leaf_24s122 hs h h2
 done := done_24s122
 val := fun h1 h2 h3 => val_24s122 hs h1 h2 h3
 pass := fun h1 h2 h3 h4 h5 h6 h7 => sum_24s122 hs hbut h1 ⟨h3, h2⟩ h4 h5 (by rw [h6]; simpa using h7)
 deny := fun h1 h2 h3 h4 h5 h6 h7 => sum_24s122 hs hbut h1 ⟨h3, h2⟩ h4 h5 (by rw [if_pos h6]; exact h7)
 call := fun h1 h2 h3 h4 h5 h6 => call_24s122 hs h1 ⟨h3, h2⟩ h4 h5 h6
 skip := fun h1 h2 h3 h4 h5 => top_24s122 hs h1 h3 h4 (by rw [h2]; simpa using h5)
 near := fun h1 h2 h3 h4 h5 h6 => top_24s122 hs h1 h3 h4 (by rw [if_pos h2, if_pos h5]; exact h6)
 far := fun h1 h2 h3 h4 h5 => top_24s122 hs h1 h3 h4 (by rw [if_pos h2, h5]; rfl)
 fin := fun h => hfin h
noncomputable def a0_26s122 (s : Se) (but : Nat) (x0 : Sp) (i : Nat) (C : Sp) (t l : List Int) (y : R26s122) : Prop := Ev fun k => T26s122_0 (i : Int) x0 (hn s but) C (hn s but) (hn s but) t l k = some y
noncomputable def a1_26s122 (s : Se) (but : Nat) (x0 : Sp) (i : Nat) (v : Int) (C : Sp) (t l : List Int) (b : Bool) (y : R26s122) : Prop := Ev fun k => T26s122_1 (i : Int) v x0 (hn s but) C (hn s but) (hn s but) t l b k = some y
noncomputable def a2_26s122 (s : Se) (but : Nat) (x0 : Sp) (l4 : Int) (m : Nat) (C : Sp) (t : List Int) (b : Bool) (y : R26s122) : Prop := Ev fun k => T26s122_2 l4 (s.1.length : Int) (m : Int) x0 (hn s but) C (hn s but) (hn s but) t t b ((topsP s.1.length t : Nat) : Int) k = some y
noncomputable def a3_26s122 (s : Se) (but : Nat) (x0 : Sp) (i : Nat) (v : Int) (m : Nat) (C : Sp) (t l : List Int) (b : Bool) (y : R26s122) : Prop := Ev fun k => T26s122_3 (i : Int) v s.2.1 (s.2.1.length : Int) (m : Int) x0 (hn s but) C (hn s but) (hn s but) t l b k = some y
def p_26s122 (s : Se) (but : Nat) (x0 : Sp) (ok : Bool) (C : Sp) (t l : List Int) : R26s122 := ((ok, ()), x0, (hn s but), C, ((if ok = true then 0 else 0 : Nat), (), (), ()), (hn s but), (), (((hn s but), ()), ()), t, l, u8, ())
section
variable {s : Se} {but : Nat} {x0 : Sp} {C : Sp} {t l : List Int} {b : Bool} {y : R26s122}
theorem node_26s122 {i : Nat} (hi : i < s.1.length) (h : a1_26s122 s but x0 i (s.1.getD i sp0).1 C t l false y) : a0_26s122 s but x0 i C t l y := by
 refine U26s122_0 _ _ _ _ _ _ _ _ (Ev.eq (fun _ => Q26s122_0 _ _ _ _ _ _ _ _ _ _) ?_)
 simp only [Option.bind_some]
 rw [dec_t (show (i : Int) < (s.1.length : Int) by omega), dec_t (show (0 : Int) ≤ (i : Int) by omega), Int.toNat_natCast]
 simp only [Bool.and_self, cond_true]
 exact h
theorem leaf_26s122 (hs : VS s) (hne : t ≠ l) (h : a2_26s122 s but x0 (-1) 0 C t false y) : a0_26s122 s but x0 s.1.length C t l y := by
 refine U26s122_0 _ _ _ _ _ _ _ _ (Ev.eq (fun _ => Q26s122_0 _ _ _ _ _ _ _ _ _ _) ?_)
 simp only [Option.bind_some]
 rw [dec_f (show ¬ ((s.1.length : Int) < (s.1.length : Int)) by omega), show eqD (Ty.arr 7 (Ty.int IntKind.i64)) t l = false from (eqArr7 t l).trans (dec_f hne), L96 s but t hs.lo hs.hi]
 simp only [cond_false, Option.bind_some]
 exact h
theorem done_26s122 {i : Nat} {v : Int} (hi : i < s.1.length) (h : (s.1.getD i sp0).2.1 < v) : a1_26s122 s but x0 i v C t l b (p_26s122 s but x0 true C t l) := by
 refine U26s122_1 _ _ _ _ _ _ _ _ _ _ (Ev.eq (fun _ => Q26s122_1 _ _ _ _ _ _ _ _ _ _ _ _) ?_)
 simp only [Option.bind_some]
 rw [dec_t (show (i : Int) < (s.1.length : Int) by omega), dec_t (show (0 : Int) ≤ (i : Int) by omega), Int.toNat_natCast, show s.1.getD i (0, 0, ()) = s.1.getD i sp0 from rfl, dec_f (show ¬ v ≤ (s.1.getD i sp0).2.1 by omega)]
 simp only [Bool.and_self, cond_true, cond_false]
 exact Ev.all fun _ => rfl
theorem val_26s122 {i : Nat} {v : Int} (hs : VS s) (hi : i < s.1.length) (hv : v ≤ (s.1.getD i sp0).2.1) (h : a3_26s122 s but x0 i v 0 C (t.set i v) l b y) : a1_26s122 s but x0 i v C t l b y := by
 have h7 := hs.hi
 refine U26s122_1 _ _ _ _ _ _ _ _ _ _ (Ev.eq (fun _ => Q26s122_1 _ _ _ _ _ _ _ _ _ _ _ _) ?_)
 simp only [Option.bind_some]
 rw [dec_t (show (i : Int) < (s.1.length : Int) by omega), dec_t (show (0 : Int) ≤ (i : Int) by omega), Int.toNat_natCast, show s.1.getD i (0, 0, ()) = s.1.getD i sp0 from rfl, dec_t hv, dec_t (show (i : Int) < 7 by omega), dec_t (show i < 7 by omega)]
 simp only [Bool.and_self, cond_true]
 exact h
theorem sum_26s122 {i : Nat} {v : Int} {m : Nat} (hs : VS s) (hbut : but < 1000000000000) (_ : i < s.1.length) (hv : 0 ≤ v ∧ v ≤ 99) (hm : m < s.2.1.length) (ht : Good t) (h : if denS s but t i m = true then a1_26s122 s but x0 i (v + 1) C t l b y else a3_26s122 s but x0 i v (m + 1) C t l b y) : a3_26s122 s but x0 i v m C t l b y := by
 have h7 := hs.hi
 have hsm := hs.sums m hm
 have h4 := hs.many
 refine U26s122_3 _ _ _ _ _ _ _ _ _ _ _ _ _ (Ev.eq (fun _ => Q26s122_3 _ _ _ _ _ _ _ _ _ _ _ _ _ _ _) ?_)
 simp only [Option.bind_some]
 rw [dec_t (show (m : Int) < (s.2.1.length : Int) by omega), dec_t (show (0 : Int) ≤ (m : Int) by omega), Int.toNat_natCast, dec_f (show ¬ ((m : Int) < 0) by omega), bit_no but m hbut (by omega), wrap_succ (n := m) (by omega), wrap_id (x := v + 1) (by omega) (by omega), show s.2.1.getD m (0, 0, (0, 0, ()), ()) = s.2.1.getD m sm0 from rfl]
 simp only [Bool.and_self, cond_true, cond_false]
 unfold denS at h
 cases hu : ((s.2.1.getD m sm0).2.1 == (i : Int)) with
 | false =>
  rw [hu] at h
  simp only [Bool.false_and, Bool.false_eq_true, if_false] at h
  simp only [cond_false]
  exact h
 | true =>
  rw [hu] at h
  simp only [Bool.true_and] at h
  simp only [cond_true]
  cases hb : but.testBit m with
  | true =>
   rw [hb] at h
   simp only [Bool.not_true, Bool.false_and, Bool.false_eq_true, if_false] at h
   simp only [Bool.not_true, cond_false]
   exact h
  | false =>
   rw [hb] at h
   simp only [Bool.not_false, Bool.true_and] at h
   have hu' : (s.2.1.getD m sm0).2.1 = (i : Int) := by simpa using hu
   have e1 : (s.2.1.getD m sm0).1 = (((s.2.1.getD m sm0).1.toNat : Nat) : Int) := by omega
   have hF : F120 ((t, (s.2.1.getD m sm0).1, (i : Int), ()) : List Int × Int × Int × Unit) = some (sumL t (s.2.1.getD m sm0).1.toNat i, ()) := by
    rw [e1]
    simp only [Int.toNat_natCast]
    exact L120 ht _ _ (by omega) (by omega)
   simp only [Bool.not_false, cond_true]
   rw [hF]
   simp only [Option.bind_some]
   rw [L84_1]
   simp only [Option.bind_some]
   cases hd : (decide (sumL t (s.2.1.getD m sm0).1.toNat i < (s.2.1.getD m sm0).2.2.1.1) || decide (sumL t (s.2.1.getD m sm0).1.toNat i > (s.2.1.getD m sm0).2.2.1.2.1)) with
   | true => rw [hd, if_pos rfl] at h; exact h
   | false => rw [hd] at h; simp only [Bool.false_eq_true, if_false] at h; exact h
theorem call_26s122 {i : Nat} {v : Int} {ok : Bool} {C' : Sp} {t' l' : List Int} (hs : VS s) (hi : i < s.1.length) (hv : 0 ≤ v ∧ v ≤ 99) (h : a0_26s122 s but x0 (i + 1) C t l (p_26s122 s but x0 ok C' t' l')) (ht : ok = true → a1_26s122 s but x0 i (v + 1) C' t' l' b y) (hf : ok = false → y = p_26s122 s but x0 false C' t' l') :
  a3_26s122 s but x0 i v s.2.1.length C t l b y := by
 have h7 := hs.hi
 refine U26s122_3 _ _ _ _ _ _ _ _ _ _ _ _ _ (Ev.eq (fun _ => Q26s122_3 _ _ _ _ _ _ _ _ _ _ _ _ _ _ _) ?_)
 rw [dec_f (show ¬ ((s.2.1.length : Int) < (s.2.1.length : Int)) by omega), wrap_succ (n := i) (by omega), wrap_id (x := v + 1) (by omega) (by omega)]
 simp only [cond_false]
 refine Ev.sub h ?_
 cases ok with
 | true => exact ht rfl
 | false =>
  rw [hf rfl]
  exact Ev.all fun _ => rfl
theorem top_26s122 {l4 : Int} {m : Nat} (hs : VS s) (hm : m < s.1.length) (h1 : -1 ≤ l4) (h2 : l4 ≤ 7) (h : if isTop s.1.length t m = true then (if (decide (l4 < 0) || inGap s.2.2.1 ((m : Int) - l4)) = true then a2_26s122 s but x0 m (m + 1) C t b y else y = p_26s122 s but x0 true C t t) else a2_26s122 s but x0 l4 (m + 1) C t b y) : a2_26s122 s but x0 l4 m C t b y := by
 have h7 := hs.hi
 have hlt := topsP_lt s.1.length t
 have h128 : 2 ^ s.1.length ≤ 128 := Nat.pow_le_pow_right (by decide) (show s.1.length ≤ 7 from h7)
 refine U26s122_2 _ _ _ _ _ _ _ _ _ _ _ _ (Ev.eq (fun _ => Q26s122_2 _ _ _ _ _ _ _ _ _ _ _ _ _ _) ?_)
 simp only [Option.bind_some]
 rw [dec_t (show (m : Int) < (s.1.length : Int) by omega), dec_f (show ¬ ((m : Int) < 0) by omega), Int.toNat_natCast, bit_no _ m (by omega) (by omega), topsP_bit, wrap_succ (n := m) (by omega), wrap_id (x := (m : Int) - l4) (by omega) (by omega), L84_1, not_gap]
 simp only [cond_true, cond_false, Option.bind_some]
 cases ht : isTop s.1.length t m with
 | false =>
  rw [ht] at h
  simp only [Bool.false_eq_true, if_false] at h
  simp only [Bool.not_false, cond_true]
  exact h
 | true =>
  rw [ht, if_pos rfl] at h
  simp only [Bool.not_true, cond_false]
  by_cases h4 : l4 ≥ 0
  ·rw [dec_t h4]
   rw [dec_f (show ¬ l4 < 0 by omega), Bool.false_or] at h
   simp only [cond_true]
   cases hg : inGap s.2.2.1 ((m : Int) - l4) with
   | true => rw [hg, if_pos rfl] at h; exact h
   | false =>
    rw [hg] at h
    simp only [Bool.false_eq_true, if_false] at h
    rw [h]
    exact Ev.all fun _ => rfl
  ·rw [dec_f h4]
   rw [dec_t (show l4 < 0 by omega), Bool.true_or, if_pos rfl] at h
   exact h
end
noncomputable def dfs_26s122 (s : Se) (but : Nat) (x0 : Sp) (hs : VS s) (hbut : but < 1000000000000) (step : Sp → List Int → Sp × Bool) (hfin : ∀ {l4 : Int} {C : Sp} {t : List Int} {b : Bool}, Good t → a2_26s122 s but x0 l4 s.1.length C t b (p_26s122 s but x0 (step C t).2 (step C t).1 t t)) : Dfs (Sp) (R26s122) s but step where
 A0 := a0_26s122 s but x0
 A1 := a1_26s122 s but x0
 A2 := a2_26s122 s but x0
 A3 := a3_26s122 s but x0
 P := p_26s122 s but x0
 node := node_26s122
 leaf := fun h _ h2 => leaf_26s122 hs h h2
 done := done_26s122
 val := fun h1 h2 h3 => val_26s122 hs h1 h2 h3
 pass := fun h1 h2 h3 h4 h5 h6 h7 => sum_26s122 hs hbut h1 ⟨h3, h2⟩ h4 h5 (by rw [h6]; simpa using h7)
 deny := fun h1 h2 h3 h4 h5 h6 h7 => sum_26s122 hs hbut h1 ⟨h3, h2⟩ h4 h5 (by rw [if_pos h6]; exact h7)
 call := fun h1 h2 h3 h4 h5 h6 => call_26s122 hs h1 ⟨h3, h2⟩ h4 h5 h6
 skip := fun h1 h2 h3 h4 h5 => top_26s122 hs h1 h3 h4 (by rw [h2]; simpa using h5)
 near := fun h1 h2 h3 h4 h5 h6 => top_26s122 hs h1 h3 h4 (by rw [if_pos h2, if_pos h5]; exact h6)
 far := fun h1 h2 h3 h4 h5 => top_26s122 hs h1 h3 h4 (by rw [if_pos h2, h5]; rfl)
 fin := fun h => hfin h
noncomputable def a0_28s122 (s : Se) (but : Nat) (x0 : Sp) (i : Nat) (C : Sp) (t l : List Int) (y : R28s122) : Prop := Ev fun k => T28s122_0 (i : Int) s x0 (hn s but) C ((s.1.length - 1 : Nat) : Int) (hn s but) (hn s but) t l k = some y
noncomputable def a1_28s122 (s : Se) (but : Nat) (x0 : Sp) (i : Nat) (v : Int) (C : Sp) (t l : List Int) (b : Bool) (y : R28s122) : Prop := Ev fun k => T28s122_1 (i : Int) v s x0 (hn s but) C ((s.1.length - 1 : Nat) : Int) (hn s but) (hn s but) t l b k = some y
noncomputable def a2_28s122 (s : Se) (but : Nat) (x0 : Sp) (l4 : Int) (m : Nat) (C : Sp) (t : List Int) (b : Bool) (y : R28s122) : Prop := Ev fun k => T28s122_2 l4 (s.1.length : Int) (m : Int) s x0 (hn s but) C ((s.1.length - 1 : Nat) : Int) (hn s but) (hn s but) t t b ((topsP s.1.length t : Nat) : Int) k = some y
noncomputable def a3_28s122 (s : Se) (but : Nat) (x0 : Sp) (i : Nat) (v : Int) (m : Nat) (C : Sp) (t l : List Int) (b : Bool) (y : R28s122) : Prop := Ev fun k => T28s122_3 (i : Int) v s.2.1 (s.2.1.length : Int) (m : Int) s x0 (hn s but) C ((s.1.length - 1 : Nat) : Int) (hn s but) (hn s but) t l b k = some y
def p_28s122 (s : Se) (but : Nat) (x0 : Sp) (ok : Bool) (C : Sp) (t l : List Int) : R28s122 := ((ok, ()), s, x0, (hn s but), C, ((s.1.length - 1 : Nat) : Int), ((if ok = true then 0 else 0 : Nat), (), (), (), (), ()), (hn s but), (), (((hn s but), ()), ()), t, l, u8, ())
section
variable {s : Se} {but : Nat} {x0 : Sp} {C : Sp} {t l : List Int} {b : Bool} {y : R28s122}
theorem node_28s122 {i : Nat} (hi : i < s.1.length) (h : a1_28s122 s but x0 i (s.1.getD i sp0).1 C t l false y) : a0_28s122 s but x0 i C t l y := by
 refine U28s122_0 _ _ _ _ _ _ _ _ _ _ (Ev.eq (fun _ => Q28s122_0 _ _ _ _ _ _ _ _ _ _ _ _) ?_)
 simp only [Option.bind_some]
 rw [dec_t (show (i : Int) < (s.1.length : Int) by omega), dec_t (show (0 : Int) ≤ (i : Int) by omega), Int.toNat_natCast]
 simp only [Bool.and_self, cond_true]
 exact h
theorem leaf_28s122 (hs : VS s) (hne : t ≠ l) (h : a2_28s122 s but x0 (-1) 0 C t false y) : a0_28s122 s but x0 s.1.length C t l y := by
 refine U28s122_0 _ _ _ _ _ _ _ _ _ _ (Ev.eq (fun _ => Q28s122_0 _ _ _ _ _ _ _ _ _ _ _ _) ?_)
 simp only [Option.bind_some]
 rw [dec_f (show ¬ ((s.1.length : Int) < (s.1.length : Int)) by omega), show eqD (Ty.arr 7 (Ty.int IntKind.i64)) t l = false from (eqArr7 t l).trans (dec_f hne), L96 s but t hs.lo hs.hi]
 simp only [cond_false, Option.bind_some]
 exact h
theorem done_28s122 {i : Nat} {v : Int} (hi : i < s.1.length) (h : (s.1.getD i sp0).2.1 < v) : a1_28s122 s but x0 i v C t l b (p_28s122 s but x0 true C t l) := by
 refine U28s122_1 _ _ _ _ _ _ _ _ _ _ _ _ (Ev.eq (fun _ => Q28s122_1 _ _ _ _ _ _ _ _ _ _ _ _ _ _) ?_)
 simp only [Option.bind_some]
 rw [dec_t (show (i : Int) < (s.1.length : Int) by omega), dec_t (show (0 : Int) ≤ (i : Int) by omega), Int.toNat_natCast, show s.1.getD i (0, 0, ()) = s.1.getD i sp0 from rfl, dec_f (show ¬ v ≤ (s.1.getD i sp0).2.1 by omega)]
 simp only [Bool.and_self, cond_true, cond_false]
 exact Ev.all fun _ => rfl
theorem val_28s122 {i : Nat} {v : Int} (hs : VS s) (hi : i < s.1.length) (hv : v ≤ (s.1.getD i sp0).2.1) (h : a3_28s122 s but x0 i v 0 C (t.set i v) l b y) : a1_28s122 s but x0 i v C t l b y := by
 have h7 := hs.hi
 refine U28s122_1 _ _ _ _ _ _ _ _ _ _ _ _ (Ev.eq (fun _ => Q28s122_1 _ _ _ _ _ _ _ _ _ _ _ _ _ _) ?_)
 simp only [Option.bind_some]
 rw [dec_t (show (i : Int) < (s.1.length : Int) by omega), dec_t (show (0 : Int) ≤ (i : Int) by omega), Int.toNat_natCast, show s.1.getD i (0, 0, ()) = s.1.getD i sp0 from rfl, dec_t hv, dec_t (show (i : Int) < 7 by omega), dec_t (show i < 7 by omega)]
 simp only [Bool.and_self, cond_true]
 exact h
theorem sum_28s122 {i : Nat} {v : Int} {m : Nat} (hs : VS s) (hbut : but < 1000000000000) (_ : i < s.1.length) (hv : 0 ≤ v ∧ v ≤ 99) (hm : m < s.2.1.length) (ht : Good t) (h : if denS s but t i m = true then a1_28s122 s but x0 i (v + 1) C t l b y else a3_28s122 s but x0 i v (m + 1) C t l b y) : a3_28s122 s but x0 i v m C t l b y := by
 have h7 := hs.hi
 have hsm := hs.sums m hm
 have h4 := hs.many
 refine U28s122_3 _ _ _ _ _ _ _ _ _ _ _ _ _ _ _ (Ev.eq (fun _ => Q28s122_3 _ _ _ _ _ _ _ _ _ _ _ _ _ _ _ _ _) ?_)
 simp only [Option.bind_some]
 rw [dec_t (show (m : Int) < (s.2.1.length : Int) by omega), dec_t (show (0 : Int) ≤ (m : Int) by omega), Int.toNat_natCast, dec_f (show ¬ ((m : Int) < 0) by omega), bit_no but m hbut (by omega), wrap_succ (n := m) (by omega), wrap_id (x := v + 1) (by omega) (by omega), show s.2.1.getD m (0, 0, (0, 0, ()), ()) = s.2.1.getD m sm0 from rfl]
 simp only [Bool.and_self, cond_true, cond_false]
 unfold denS at h
 cases hu : ((s.2.1.getD m sm0).2.1 == (i : Int)) with
 | false =>
  rw [hu] at h
  simp only [Bool.false_and, Bool.false_eq_true, if_false] at h
  simp only [cond_false]
  exact h
 | true =>
  rw [hu] at h
  simp only [Bool.true_and] at h
  simp only [cond_true]
  cases hb : but.testBit m with
  | true =>
   rw [hb] at h
   simp only [Bool.not_true, Bool.false_and, Bool.false_eq_true, if_false] at h
   simp only [Bool.not_true, cond_false]
   exact h
  | false =>
   rw [hb] at h
   simp only [Bool.not_false, Bool.true_and] at h
   have hu' : (s.2.1.getD m sm0).2.1 = (i : Int) := by simpa using hu
   have e1 : (s.2.1.getD m sm0).1 = (((s.2.1.getD m sm0).1.toNat : Nat) : Int) := by omega
   have hF : F120 ((t, (s.2.1.getD m sm0).1, (i : Int), ()) : List Int × Int × Int × Unit) = some (sumL t (s.2.1.getD m sm0).1.toNat i, ()) := by
    rw [e1]
    simp only [Int.toNat_natCast]
    exact L120 ht _ _ (by omega) (by omega)
   simp only [Bool.not_false, cond_true]
   rw [hF]
   simp only [Option.bind_some]
   rw [L84_1]
   simp only [Option.bind_some]
   cases hd : (decide (sumL t (s.2.1.getD m sm0).1.toNat i < (s.2.1.getD m sm0).2.2.1.1) || decide (sumL t (s.2.1.getD m sm0).1.toNat i > (s.2.1.getD m sm0).2.2.1.2.1)) with
   | true => rw [hd, if_pos rfl] at h; exact h
   | false => rw [hd] at h; simp only [Bool.false_eq_true, if_false] at h; exact h
theorem call_28s122 {i : Nat} {v : Int} {ok : Bool} {C' : Sp} {t' l' : List Int} (hs : VS s) (hi : i < s.1.length) (hv : 0 ≤ v ∧ v ≤ 99) (h : a0_28s122 s but x0 (i + 1) C t l (p_28s122 s but x0 ok C' t' l')) (ht : ok = true → a1_28s122 s but x0 i (v + 1) C' t' l' b y) (hf : ok = false → y = p_28s122 s but x0 false C' t' l') :
  a3_28s122 s but x0 i v s.2.1.length C t l b y := by
 have h7 := hs.hi
 refine U28s122_3 _ _ _ _ _ _ _ _ _ _ _ _ _ _ _ (Ev.eq (fun _ => Q28s122_3 _ _ _ _ _ _ _ _ _ _ _ _ _ _ _ _ _) ?_)
 rw [dec_f (show ¬ ((s.2.1.length : Int) < (s.2.1.length : Int)) by omega), wrap_succ (n := i) (by omega), wrap_id (x := v + 1) (by omega) (by omega)]
 simp only [cond_false]
 refine Ev.sub h ?_
 cases ok with
 | true => exact ht rfl
 | false =>
  rw [hf rfl]
  exact Ev.all fun _ => rfl
theorem top_28s122 {l4 : Int} {m : Nat} (hs : VS s) (hm : m < s.1.length) (h1 : -1 ≤ l4) (h2 : l4 ≤ 7) (h : if isTop s.1.length t m = true then (if (decide (l4 < 0) || inGap s.2.2.1 ((m : Int) - l4)) = true then a2_28s122 s but x0 m (m + 1) C t b y else y = p_28s122 s but x0 true C t t) else a2_28s122 s but x0 l4 (m + 1) C t b y) : a2_28s122 s but x0 l4 m C t b y := by
 have h7 := hs.hi
 have hlt := topsP_lt s.1.length t
 have h128 : 2 ^ s.1.length ≤ 128 := Nat.pow_le_pow_right (by decide) (show s.1.length ≤ 7 from h7)
 refine U28s122_2 _ _ _ _ _ _ _ _ _ _ _ _ _ _ (Ev.eq (fun _ => Q28s122_2 _ _ _ _ _ _ _ _ _ _ _ _ _ _ _ _) ?_)
 simp only [Option.bind_some]
 rw [dec_t (show (m : Int) < (s.1.length : Int) by omega), dec_f (show ¬ ((m : Int) < 0) by omega), Int.toNat_natCast, bit_no _ m (by omega) (by omega), topsP_bit, wrap_succ (n := m) (by omega), wrap_id (x := (m : Int) - l4) (by omega) (by omega), L84_1, not_gap]
 simp only [cond_true, cond_false, Option.bind_some]
 cases ht : isTop s.1.length t m with
 | false =>
  rw [ht] at h
  simp only [Bool.false_eq_true, if_false] at h
  simp only [Bool.not_false, cond_true]
  exact h
 | true =>
  rw [ht, if_pos rfl] at h
  simp only [Bool.not_true, cond_false]
  by_cases h4 : l4 ≥ 0
  ·rw [dec_t h4]
   rw [dec_f (show ¬ l4 < 0 by omega), Bool.false_or] at h
   simp only [cond_true]
   cases hg : inGap s.2.2.1 ((m : Int) - l4) with
   | true => rw [hg, if_pos rfl] at h; exact h
   | false =>
    rw [hg] at h
    simp only [Bool.false_eq_true, if_false] at h
    rw [h]
    exact Ev.all fun _ => rfl
  ·rw [dec_f h4]
   rw [dec_t (show l4 < 0 by omega), Bool.true_or, if_pos rfl] at h
   exact h
end
noncomputable def dfs_28s122 (s : Se) (but : Nat) (x0 : Sp) (hs : VS s) (hbut : but < 1000000000000) (step : Sp → List Int → Sp × Bool) (hfin : ∀ {l4 : Int} {C : Sp} {t : List Int} {b : Bool}, Good t → a2_28s122 s but x0 l4 s.1.length C t b (p_28s122 s but x0 (step C t).2 (step C t).1 t t)) : Dfs (Sp) (R28s122) s but step where
 A0 := a0_28s122 s but x0
 A1 := a1_28s122 s but x0
 A2 := a2_28s122 s but x0
 A3 := a3_28s122 s but x0
 P := p_28s122 s but x0
 node := node_28s122
 leaf := fun h _ h2 => leaf_28s122 hs h h2
 done := done_28s122
 val := fun h1 h2 h3 => val_28s122 hs h1 h2 h3
 pass := fun h1 h2 h3 h4 h5 h6 h7 => sum_28s122 hs hbut h1 ⟨h3, h2⟩ h4 h5 (by rw [h6]; simpa using h7)
 deny := fun h1 h2 h3 h4 h5 h6 h7 => sum_28s122 hs hbut h1 ⟨h3, h2⟩ h4 h5 (by rw [if_pos h6]; exact h7)
 call := fun h1 h2 h3 h4 h5 h6 => call_28s122 hs h1 ⟨h3, h2⟩ h4 h5 h6
 skip := fun h1 h2 h3 h4 h5 => top_28s122 hs h1 h3 h4 (by rw [h2]; simpa using h5)
 near := fun h1 h2 h3 h4 h5 h6 => top_28s122 hs h1 h3 h4 (by rw [if_pos h2, if_pos h5]; exact h6)
 far := fun h1 h2 h3 h4 h5 => top_28s122 hs h1 h3 h4 (by rw [if_pos h2, h5]; rfl)
 fin := fun h => hfin h
noncomputable def a0_30s122v0 (s : Se) (but : Nat) (x0 : Sp) (i : Nat) (C : Int) (t l : List Int) (y : R30s122v0) : Prop := Ev fun k => T30s122v0_0 (i : Int) s x0 C (hn s but) (hn s but) t l k = some y
noncomputable def a1_30s122v0 (s : Se) (but : Nat) (x0 : Sp) (i : Nat) (v : Int) (C : Int) (t l : List Int) (b : Bool) (y : R30s122v0) : Prop := Ev fun k => T30s122v0_1 (i : Int) v s x0 C (hn s but) (hn s but) t l b k = some y
noncomputable def a2_30s122v0 (s : Se) (but : Nat) (x0 : Sp) (l4 : Int) (m : Nat) (C : Int) (t : List Int) (b : Bool) (y : R30s122v0) : Prop := Ev fun k => T30s122v0_2 l4 (s.1.length : Int) (m : Int) s x0 C (hn s but) (hn s but) t t b ((topsP s.1.length t : Nat) : Int) k = some y
noncomputable def a3_30s122v0 (s : Se) (but : Nat) (x0 : Sp) (i : Nat) (v : Int) (m : Nat) (C : Int) (t l : List Int) (b : Bool) (y : R30s122v0) : Prop := Ev fun k => T30s122v0_3 (i : Int) v s.2.1 (s.2.1.length : Int) (m : Int) s x0 C (hn s but) (hn s but) t l b k = some y
def p_30s122v0 (s : Se) (but : Nat) (x0 : Sp) (ok : Bool) (C : Int) (t l : List Int) : R30s122v0 := ((ok, ()), s, x0, ((), ()), C, ((if ok = true then 0 else 0 : Nat), (), (), (), (), ()), (hn s but), (), (((hn s but), ()), ()), t, l, u8, ())
section
variable {s : Se} {but : Nat} {x0 : Sp} {C : Int} {t l : List Int} {b : Bool} {y : R30s122v0}
theorem node_30s122v0 {i : Nat} (hi : i < s.1.length) (h : a1_30s122v0 s but x0 i (s.1.getD i sp0).1 C t l false y) : a0_30s122v0 s but x0 i C t l y := by
 refine U30s122v0_0 _ _ _ _ _ _ _ _ (Ev.eq (fun _ => Q30s122v0_0 _ _ _ _ _ _ _ _ _ _) ?_)
 simp only [Option.bind_some]
 rw [dec_t (show (i : Int) < (s.1.length : Int) by omega), dec_t (show (0 : Int) ≤ (i : Int) by omega), Int.toNat_natCast]
 simp only [Bool.and_self, cond_true]
 exact h
theorem leaf_30s122v0 (hs : VS s) (hne : t ≠ l) (h : a2_30s122v0 s but x0 (-1) 0 C t false y) : a0_30s122v0 s but x0 s.1.length C t l y := by
 refine U30s122v0_0 _ _ _ _ _ _ _ _ (Ev.eq (fun _ => Q30s122v0_0 _ _ _ _ _ _ _ _ _ _) ?_)
 simp only [Option.bind_some]
 rw [dec_f (show ¬ ((s.1.length : Int) < (s.1.length : Int)) by omega), show eqD (Ty.arr 7 (Ty.int IntKind.i64)) t l = false from (eqArr7 t l).trans (dec_f hne), L96 s but t hs.lo hs.hi]
 simp only [cond_false, Option.bind_some]
 exact h
theorem done_30s122v0 {i : Nat} {v : Int} (hi : i < s.1.length) (h : (s.1.getD i sp0).2.1 < v) : a1_30s122v0 s but x0 i v C t l b (p_30s122v0 s but x0 true C t l) := by
 refine U30s122v0_1 _ _ _ _ _ _ _ _ _ _ (Ev.eq (fun _ => Q30s122v0_1 _ _ _ _ _ _ _ _ _ _ _ _) ?_)
 simp only [Option.bind_some]
 rw [dec_t (show (i : Int) < (s.1.length : Int) by omega), dec_t (show (0 : Int) ≤ (i : Int) by omega), Int.toNat_natCast, show s.1.getD i (0, 0, ()) = s.1.getD i sp0 from rfl, dec_f (show ¬ v ≤ (s.1.getD i sp0).2.1 by omega)]
 simp only [Bool.and_self, cond_true, cond_false]
 exact Ev.all fun _ => rfl
theorem val_30s122v0 {i : Nat} {v : Int} (hs : VS s) (hi : i < s.1.length) (hv : v ≤ (s.1.getD i sp0).2.1) (h : a3_30s122v0 s but x0 i v 0 C (t.set i v) l b y) : a1_30s122v0 s but x0 i v C t l b y := by
 have h7 := hs.hi
 refine U30s122v0_1 _ _ _ _ _ _ _ _ _ _ (Ev.eq (fun _ => Q30s122v0_1 _ _ _ _ _ _ _ _ _ _ _ _) ?_)
 simp only [Option.bind_some]
 rw [dec_t (show (i : Int) < (s.1.length : Int) by omega), dec_t (show (0 : Int) ≤ (i : Int) by omega), Int.toNat_natCast, show s.1.getD i (0, 0, ()) = s.1.getD i sp0 from rfl, dec_t hv, dec_t (show (i : Int) < 7 by omega), dec_t (show i < 7 by omega)]
 simp only [Bool.and_self, cond_true]
 exact h
theorem sum_30s122v0 {i : Nat} {v : Int} {m : Nat} (hs : VS s) (hbut : but < 1000000000000) (_ : i < s.1.length) (hv : 0 ≤ v ∧ v ≤ 99) (hm : m < s.2.1.length) (ht : Good t) (h : if denS s but t i m = true then a1_30s122v0 s but x0 i (v + 1) C t l b y else a3_30s122v0 s but x0 i v (m + 1) C t l b y) : a3_30s122v0 s but x0 i v m C t l b y := by
 have h7 := hs.hi
 have hsm := hs.sums m hm
 have h4 := hs.many
 refine U30s122v0_3 _ _ _ _ _ _ _ _ _ _ _ _ _ (Ev.eq (fun _ => Q30s122v0_3 _ _ _ _ _ _ _ _ _ _ _ _ _ _ _) ?_)
 simp only [Option.bind_some]
 rw [dec_t (show (m : Int) < (s.2.1.length : Int) by omega), dec_t (show (0 : Int) ≤ (m : Int) by omega), Int.toNat_natCast, dec_f (show ¬ ((m : Int) < 0) by omega), bit_no but m hbut (by omega), wrap_succ (n := m) (by omega), wrap_id (x := v + 1) (by omega) (by omega), show s.2.1.getD m (0, 0, (0, 0, ()), ()) = s.2.1.getD m sm0 from rfl]
 simp only [Bool.and_self, cond_true, cond_false]
 unfold denS at h
 cases hu : ((s.2.1.getD m sm0).2.1 == (i : Int)) with
 | false =>
  rw [hu] at h
  simp only [Bool.false_and, Bool.false_eq_true, if_false] at h
  simp only [cond_false]
  exact h
 | true =>
  rw [hu] at h
  simp only [Bool.true_and] at h
  simp only [cond_true]
  cases hb : but.testBit m with
  | true =>
   rw [hb] at h
   simp only [Bool.not_true, Bool.false_and, Bool.false_eq_true, if_false] at h
   simp only [Bool.not_true, cond_false]
   exact h
  | false =>
   rw [hb] at h
   simp only [Bool.not_false, Bool.true_and] at h
   have hu' : (s.2.1.getD m sm0).2.1 = (i : Int) := by simpa using hu
   have e1 : (s.2.1.getD m sm0).1 = (((s.2.1.getD m sm0).1.toNat : Nat) : Int) := by omega
   have hF : F120 ((t, (s.2.1.getD m sm0).1, (i : Int), ()) : List Int × Int × Int × Unit) = some (sumL t (s.2.1.getD m sm0).1.toNat i, ()) := by
    rw [e1]
    simp only [Int.toNat_natCast]
    exact L120 ht _ _ (by omega) (by omega)
   simp only [Bool.not_false, cond_true]
   rw [hF]
   simp only [Option.bind_some]
   rw [L84_1]
   simp only [Option.bind_some]
   cases hd : (decide (sumL t (s.2.1.getD m sm0).1.toNat i < (s.2.1.getD m sm0).2.2.1.1) || decide (sumL t (s.2.1.getD m sm0).1.toNat i > (s.2.1.getD m sm0).2.2.1.2.1)) with
   | true => rw [hd, if_pos rfl] at h; exact h
   | false => rw [hd] at h; simp only [Bool.false_eq_true, if_false] at h; exact h
theorem call_30s122v0 {i : Nat} {v : Int} {ok : Bool} {C' : Int} {t' l' : List Int} (hs : VS s) (hi : i < s.1.length) (hv : 0 ≤ v ∧ v ≤ 99) (h : a0_30s122v0 s but x0 (i + 1) C t l (p_30s122v0 s but x0 ok C' t' l')) (ht : ok = true → a1_30s122v0 s but x0 i (v + 1) C' t' l' b y) (hf : ok = false → y = p_30s122v0 s but x0 false C' t' l') :
  a3_30s122v0 s but x0 i v s.2.1.length C t l b y := by
 have h7 := hs.hi
 refine U30s122v0_3 _ _ _ _ _ _ _ _ _ _ _ _ _ (Ev.eq (fun _ => Q30s122v0_3 _ _ _ _ _ _ _ _ _ _ _ _ _ _ _) ?_)
 rw [dec_f (show ¬ ((s.2.1.length : Int) < (s.2.1.length : Int)) by omega), wrap_succ (n := i) (by omega), wrap_id (x := v + 1) (by omega) (by omega)]
 simp only [cond_false]
 refine Ev.sub h ?_
 cases ok with
 | true => exact ht rfl
 | false =>
  rw [hf rfl]
  exact Ev.all fun _ => rfl
theorem top_30s122v0 {l4 : Int} {m : Nat} (hs : VS s) (hm : m < s.1.length) (h1 : -1 ≤ l4) (h2 : l4 ≤ 7) (h : if isTop s.1.length t m = true then (if (decide (l4 < 0) || inGap s.2.2.1 ((m : Int) - l4)) = true then a2_30s122v0 s but x0 m (m + 1) C t b y else y = p_30s122v0 s but x0 true C t t) else a2_30s122v0 s but x0 l4 (m + 1) C t b y) : a2_30s122v0 s but x0 l4 m C t b y := by
 have h7 := hs.hi
 have hlt := topsP_lt s.1.length t
 have h128 : 2 ^ s.1.length ≤ 128 := Nat.pow_le_pow_right (by decide) (show s.1.length ≤ 7 from h7)
 refine U30s122v0_2 _ _ _ _ _ _ _ _ _ _ _ _ (Ev.eq (fun _ => Q30s122v0_2 _ _ _ _ _ _ _ _ _ _ _ _ _ _) ?_)
 simp only [Option.bind_some]
 rw [dec_t (show (m : Int) < (s.1.length : Int) by omega), dec_f (show ¬ ((m : Int) < 0) by omega), Int.toNat_natCast, bit_no _ m (by omega) (by omega), topsP_bit, wrap_succ (n := m) (by omega), wrap_id (x := (m : Int) - l4) (by omega) (by omega), L84_1, not_gap]
 simp only [cond_true, cond_false, Option.bind_some]
 cases ht : isTop s.1.length t m with
 | false =>
  rw [ht] at h
  simp only [Bool.false_eq_true, if_false] at h
  simp only [Bool.not_false, cond_true]
  exact h
 | true =>
  rw [ht, if_pos rfl] at h
  simp only [Bool.not_true, cond_false]
  by_cases h4 : l4 ≥ 0
  ·rw [dec_t h4]
   rw [dec_f (show ¬ l4 < 0 by omega), Bool.false_or] at h
   simp only [cond_true]
   cases hg : inGap s.2.2.1 ((m : Int) - l4) with
   | true => rw [hg, if_pos rfl] at h; exact h
   | false =>
    rw [hg] at h
    simp only [Bool.false_eq_true, if_false] at h
    rw [h]
    exact Ev.all fun _ => rfl
  ·rw [dec_f h4]
   rw [dec_t (show l4 < 0 by omega), Bool.true_or, if_pos rfl] at h
   exact h
end
noncomputable def dfs_30s122v0 (s : Se) (but : Nat) (x0 : Sp) (hs : VS s) (hbut : but < 1000000000000) (step : Int → List Int → Int × Bool) (hfin : ∀ {l4 : Int} {C : Int} {t : List Int} {b : Bool}, Good t → a2_30s122v0 s but x0 l4 s.1.length C t b (p_30s122v0 s but x0 (step C t).2 (step C t).1 t t)) : Dfs (Int) (R30s122v0) s but step where
 A0 := a0_30s122v0 s but x0
 A1 := a1_30s122v0 s but x0
 A2 := a2_30s122v0 s but x0
 A3 := a3_30s122v0 s but x0
 P := p_30s122v0 s but x0
 node := node_30s122v0
 leaf := fun h _ h2 => leaf_30s122v0 hs h h2
 done := done_30s122v0
 val := fun h1 h2 h3 => val_30s122v0 hs h1 h2 h3
 pass := fun h1 h2 h3 h4 h5 h6 h7 => sum_30s122v0 hs hbut h1 ⟨h3, h2⟩ h4 h5 (by rw [h6]; simpa using h7)
 deny := fun h1 h2 h3 h4 h5 h6 h7 => sum_30s122v0 hs hbut h1 ⟨h3, h2⟩ h4 h5 (by rw [if_pos h6]; exact h7)
 call := fun h1 h2 h3 h4 h5 h6 => call_30s122v0 hs h1 ⟨h3, h2⟩ h4 h5 h6
 skip := fun h1 h2 h3 h4 h5 => top_30s122v0 hs h1 h3 h4 (by rw [h2]; simpa using h5)
 near := fun h1 h2 h3 h4 h5 h6 => top_30s122v0 hs h1 h3 h4 (by rw [if_pos h2, if_pos h5]; exact h6)
 far := fun h1 h2 h3 h4 h5 => top_30s122v0 hs h1 h3 h4 (by rw [if_pos h2, h5]; rfl)
 fin := fun h => hfin h
noncomputable def a0_30s122v1 (s : Se) (but : Nat) (x0 : Sp) (i : Nat) (C : Int) (t l : List Int) (y : R30s122v1) : Prop := Ev fun k => T30s122v1_0 (i : Int) s x0 C (hn s but) (hn s but) t l k = some y
noncomputable def a1_30s122v1 (s : Se) (but : Nat) (x0 : Sp) (i : Nat) (v : Int) (C : Int) (t l : List Int) (b : Bool) (y : R30s122v1) : Prop := Ev fun k => T30s122v1_1 (i : Int) v s x0 C (hn s but) (hn s but) t l b k = some y
noncomputable def a2_30s122v1 (s : Se) (but : Nat) (x0 : Sp) (l4 : Int) (m : Nat) (C : Int) (t : List Int) (b : Bool) (y : R30s122v1) : Prop := Ev fun k => T30s122v1_2 l4 (s.1.length : Int) (m : Int) s x0 C (hn s but) (hn s but) t t b ((topsP s.1.length t : Nat) : Int) k = some y
noncomputable def a3_30s122v1 (s : Se) (but : Nat) (x0 : Sp) (i : Nat) (v : Int) (m : Nat) (C : Int) (t l : List Int) (b : Bool) (y : R30s122v1) : Prop := Ev fun k => T30s122v1_3 (i : Int) v s.2.1 (s.2.1.length : Int) (m : Int) s x0 C (hn s but) (hn s but) t l b k = some y
def p_30s122v1 (s : Se) (but : Nat) (x0 : Sp) (ok : Bool) (C : Int) (t l : List Int) : R30s122v1 := ((ok, ()), s, x0, ((), ()), C, ((if ok = true then 0 else 0 : Nat), (), (), (), (), ()), (hn s but), (), (((hn s but), ()), ()), t, l, u8, ())
section
variable {s : Se} {but : Nat} {x0 : Sp} {C : Int} {t l : List Int} {b : Bool} {y : R30s122v1}
theorem node_30s122v1 {i : Nat} (hi : i < s.1.length) (h : a1_30s122v1 s but x0 i (s.1.getD i sp0).1 C t l false y) : a0_30s122v1 s but x0 i C t l y := by
 refine U30s122v1_0 _ _ _ _ _ _ _ _ (Ev.eq (fun _ => Q30s122v1_0 _ _ _ _ _ _ _ _ _ _) ?_)
 simp only [Option.bind_some]
 rw [dec_t (show (i : Int) < (s.1.length : Int) by omega), dec_t (show (0 : Int) ≤ (i : Int) by omega), Int.toNat_natCast]
 simp only [Bool.and_self, cond_true]
 exact h
theorem leaf_30s122v1 (hs : VS s) (hne : t ≠ l) (h : a2_30s122v1 s but x0 (-1) 0 C t false y) : a0_30s122v1 s but x0 s.1.length C t l y := by
 refine U30s122v1_0 _ _ _ _ _ _ _ _ (Ev.eq (fun _ => Q30s122v1_0 _ _ _ _ _ _ _ _ _ _) ?_)
 simp only [Option.bind_some]
 rw [dec_f (show ¬ ((s.1.length : Int) < (s.1.length : Int)) by omega), show eqD (Ty.arr 7 (Ty.int IntKind.i64)) t l = false from (eqArr7 t l).trans (dec_f hne), L96 s but t hs.lo hs.hi]
 simp only [cond_false, Option.bind_some]
 exact h
theorem done_30s122v1 {i : Nat} {v : Int} (hi : i < s.1.length) (h : (s.1.getD i sp0).2.1 < v) : a1_30s122v1 s but x0 i v C t l b (p_30s122v1 s but x0 true C t l) := by
 refine U30s122v1_1 _ _ _ _ _ _ _ _ _ _ (Ev.eq (fun _ => Q30s122v1_1 _ _ _ _ _ _ _ _ _ _ _ _) ?_)
 simp only [Option.bind_some]
 rw [dec_t (show (i : Int) < (s.1.length : Int) by omega), dec_t (show (0 : Int) ≤ (i : Int) by omega), Int.toNat_natCast, show s.1.getD i (0, 0, ()) = s.1.getD i sp0 from rfl, dec_f (show ¬ v ≤ (s.1.getD i sp0).2.1 by omega)]
 simp only [Bool.and_self, cond_true, cond_false]
 exact Ev.all fun _ => rfl
theorem val_30s122v1 {i : Nat} {v : Int} (hs : VS s) (hi : i < s.1.length) (hv : v ≤ (s.1.getD i sp0).2.1) (h : a3_30s122v1 s but x0 i v 0 C (t.set i v) l b y) : a1_30s122v1 s but x0 i v C t l b y := by
 have h7 := hs.hi
 refine U30s122v1_1 _ _ _ _ _ _ _ _ _ _ (Ev.eq (fun _ => Q30s122v1_1 _ _ _ _ _ _ _ _ _ _ _ _) ?_)
 simp only [Option.bind_some]
 rw [dec_t (show (i : Int) < (s.1.length : Int) by omega), dec_t (show (0 : Int) ≤ (i : Int) by omega), Int.toNat_natCast, show s.1.getD i (0, 0, ()) = s.1.getD i sp0 from rfl, dec_t hv, dec_t (show (i : Int) < 7 by omega), dec_t (show i < 7 by omega)]
 simp only [Bool.and_self, cond_true]
 exact h
theorem sum_30s122v1 {i : Nat} {v : Int} {m : Nat} (hs : VS s) (hbut : but < 1000000000000) (_ : i < s.1.length) (hv : 0 ≤ v ∧ v ≤ 99) (hm : m < s.2.1.length) (ht : Good t) (h : if denS s but t i m = true then a1_30s122v1 s but x0 i (v + 1) C t l b y else a3_30s122v1 s but x0 i v (m + 1) C t l b y) : a3_30s122v1 s but x0 i v m C t l b y := by
 have h7 := hs.hi
 have hsm := hs.sums m hm
 have h4 := hs.many
 refine U30s122v1_3 _ _ _ _ _ _ _ _ _ _ _ _ _ (Ev.eq (fun _ => Q30s122v1_3 _ _ _ _ _ _ _ _ _ _ _ _ _ _ _) ?_)
 simp only [Option.bind_some]
 rw [dec_t (show (m : Int) < (s.2.1.length : Int) by omega), dec_t (show (0 : Int) ≤ (m : Int) by omega), Int.toNat_natCast, dec_f (show ¬ ((m : Int) < 0) by omega), bit_no but m hbut (by omega), wrap_succ (n := m) (by omega), wrap_id (x := v + 1) (by omega) (by omega), show s.2.1.getD m (0, 0, (0, 0, ()), ()) = s.2.1.getD m sm0 from rfl]
 simp only [Bool.and_self, cond_true, cond_false]
 unfold denS at h
 cases hu : ((s.2.1.getD m sm0).2.1 == (i : Int)) with
 | false =>
  rw [hu] at h
  simp only [Bool.false_and, Bool.false_eq_true, if_false] at h
  simp only [cond_false]
  exact h
 | true =>
  rw [hu] at h
  simp only [Bool.true_and] at h
  simp only [cond_true]
  cases hb : but.testBit m with
  | true =>
   rw [hb] at h
   simp only [Bool.not_true, Bool.false_and, Bool.false_eq_true, if_false] at h
   simp only [Bool.not_true, cond_false]
   exact h
  | false =>
   rw [hb] at h
   simp only [Bool.not_false, Bool.true_and] at h
   have hu' : (s.2.1.getD m sm0).2.1 = (i : Int) := by simpa using hu
   have e1 : (s.2.1.getD m sm0).1 = (((s.2.1.getD m sm0).1.toNat : Nat) : Int) := by omega
   have hF : F120 ((t, (s.2.1.getD m sm0).1, (i : Int), ()) : List Int × Int × Int × Unit) = some (sumL t (s.2.1.getD m sm0).1.toNat i, ()) := by
    rw [e1]
    simp only [Int.toNat_natCast]
    exact L120 ht _ _ (by omega) (by omega)
   simp only [Bool.not_false, cond_true]
   rw [hF]
   simp only [Option.bind_some]
   rw [L84_1]
   simp only [Option.bind_some]
   cases hd : (decide (sumL t (s.2.1.getD m sm0).1.toNat i < (s.2.1.getD m sm0).2.2.1.1) || decide (sumL t (s.2.1.getD m sm0).1.toNat i > (s.2.1.getD m sm0).2.2.1.2.1)) with
   | true => rw [hd, if_pos rfl] at h; exact h
   | false => rw [hd] at h; simp only [Bool.false_eq_true, if_false] at h; exact h
theorem call_30s122v1 {i : Nat} {v : Int} {ok : Bool} {C' : Int} {t' l' : List Int} (hs : VS s) (hi : i < s.1.length) (hv : 0 ≤ v ∧ v ≤ 99) (h : a0_30s122v1 s but x0 (i + 1) C t l (p_30s122v1 s but x0 ok C' t' l')) (ht : ok = true → a1_30s122v1 s but x0 i (v + 1) C' t' l' b y) (hf : ok = false → y = p_30s122v1 s but x0 false C' t' l') :
  a3_30s122v1 s but x0 i v s.2.1.length C t l b y := by
 have h7 := hs.hi
 refine U30s122v1_3 _ _ _ _ _ _ _ _ _ _ _ _ _ (Ev.eq (fun _ => Q30s122v1_3 _ _ _ _ _ _ _ _ _ _ _ _ _ _ _) ?_)
 rw [dec_f (show ¬ ((s.2.1.length : Int) < (s.2.1.length : Int)) by omega), wrap_succ (n := i) (by omega), wrap_id (x := v + 1) (by omega) (by omega)]
 simp only [cond_false]
 refine Ev.sub h ?_
 cases ok with
 | true => exact ht rfl
 | false =>
  rw [hf rfl]
  exact Ev.all fun _ => rfl
theorem top_30s122v1 {l4 : Int} {m : Nat} (hs : VS s) (hm : m < s.1.length) (h1 : -1 ≤ l4) (h2 : l4 ≤ 7) (h : if isTop s.1.length t m = true then (if (decide (l4 < 0) || inGap s.2.2.1 ((m : Int) - l4)) = true then a2_30s122v1 s but x0 m (m + 1) C t b y else y = p_30s122v1 s but x0 true C t t) else a2_30s122v1 s but x0 l4 (m + 1) C t b y) : a2_30s122v1 s but x0 l4 m C t b y := by
 have h7 := hs.hi
 have hlt := topsP_lt s.1.length t
 have h128 : 2 ^ s.1.length ≤ 128 := Nat.pow_le_pow_right (by decide) (show s.1.length ≤ 7 from h7)
 refine U30s122v1_2 _ _ _ _ _ _ _ _ _ _ _ _ (Ev.eq (fun _ => Q30s122v1_2 _ _ _ _ _ _ _ _ _ _ _ _ _ _) ?_)
 simp only [Option.bind_some]
 rw [dec_t (show (m : Int) < (s.1.length : Int) by omega), dec_f (show ¬ ((m : Int) < 0) by omega), Int.toNat_natCast, bit_no _ m (by omega) (by omega), topsP_bit, wrap_succ (n := m) (by omega), wrap_id (x := (m : Int) - l4) (by omega) (by omega), L84_1, not_gap]
 simp only [cond_true, cond_false, Option.bind_some]
 cases ht : isTop s.1.length t m with
 | false =>
  rw [ht] at h
  simp only [Bool.false_eq_true, if_false] at h
  simp only [Bool.not_false, cond_true]
  exact h
 | true =>
  rw [ht, if_pos rfl] at h
  simp only [Bool.not_true, cond_false]
  by_cases h4 : l4 ≥ 0
  ·rw [dec_t h4]
   rw [dec_f (show ¬ l4 < 0 by omega), Bool.false_or] at h
   simp only [cond_true]
   cases hg : inGap s.2.2.1 ((m : Int) - l4) with
   | true => rw [hg, if_pos rfl] at h; exact h
   | false =>
    rw [hg] at h
    simp only [Bool.false_eq_true, if_false] at h
    rw [h]
    exact Ev.all fun _ => rfl
  ·rw [dec_f h4]
   rw [dec_t (show l4 < 0 by omega), Bool.true_or, if_pos rfl] at h
   exact h
end
noncomputable def dfs_30s122v1 (s : Se) (but : Nat) (x0 : Sp) (hs : VS s) (hbut : but < 1000000000000) (step : Int → List Int → Int × Bool) (hfin : ∀ {l4 : Int} {C : Int} {t : List Int} {b : Bool}, Good t → a2_30s122v1 s but x0 l4 s.1.length C t b (p_30s122v1 s but x0 (step C t).2 (step C t).1 t t)) : Dfs (Int) (R30s122v1) s but step where
 A0 := a0_30s122v1 s but x0
 A1 := a1_30s122v1 s but x0
 A2 := a2_30s122v1 s but x0
 A3 := a3_30s122v1 s but x0
 P := p_30s122v1 s but x0
 node := node_30s122v1
 leaf := fun h _ h2 => leaf_30s122v1 hs h h2
 done := done_30s122v1
 val := fun h1 h2 h3 => val_30s122v1 hs h1 h2 h3
 pass := fun h1 h2 h3 h4 h5 h6 h7 => sum_30s122v1 hs hbut h1 ⟨h3, h2⟩ h4 h5 (by rw [h6]; simpa using h7)
 deny := fun h1 h2 h3 h4 h5 h6 h7 => sum_30s122v1 hs hbut h1 ⟨h3, h2⟩ h4 h5 (by rw [if_pos h6]; exact h7)
 call := fun h1 h2 h3 h4 h5 h6 => call_30s122v1 hs h1 ⟨h3, h2⟩ h4 h5 h6
 skip := fun h1 h2 h3 h4 h5 => top_30s122v1 hs h1 h3 h4 (by rw [h2]; simpa using h5)
 near := fun h1 h2 h3 h4 h5 h6 => top_30s122v1 hs h1 h3 h4 (by rw [if_pos h2, if_pos h5]; exact h6)
 far := fun h1 h2 h3 h4 h5 => top_30s122v1 hs h1 h3 h4 (by rw [if_pos h2, h5]; rfl)
 fin := fun h => hfin h
noncomputable def a0_30s122v2 (s : Se) (but : Nat) (x0 : Sp) (i : Nat) (C : Int) (t l : List Int) (y : R30s122v2) : Prop := Ev fun k => T30s122v2_0 (i : Int) s x0 C (hn s but) (hn s but) t l k = some y
noncomputable def a1_30s122v2 (s : Se) (but : Nat) (x0 : Sp) (i : Nat) (v : Int) (C : Int) (t l : List Int) (b : Bool) (y : R30s122v2) : Prop := Ev fun k => T30s122v2_1 (i : Int) v s x0 C (hn s but) (hn s but) t l b k = some y
noncomputable def a2_30s122v2 (s : Se) (but : Nat) (x0 : Sp) (l4 : Int) (m : Nat) (C : Int) (t : List Int) (b : Bool) (y : R30s122v2) : Prop := Ev fun k => T30s122v2_2 l4 (s.1.length : Int) (m : Int) s x0 C (hn s but) (hn s but) t t b ((topsP s.1.length t : Nat) : Int) k = some y
noncomputable def a3_30s122v2 (s : Se) (but : Nat) (x0 : Sp) (i : Nat) (v : Int) (m : Nat) (C : Int) (t l : List Int) (b : Bool) (y : R30s122v2) : Prop := Ev fun k => T30s122v2_3 (i : Int) v s.2.1 (s.2.1.length : Int) (m : Int) s x0 C (hn s but) (hn s but) t l b k = some y
def p_30s122v2 (s : Se) (but : Nat) (x0 : Sp) (ok : Bool) (C : Int) (t l : List Int) : R30s122v2 := ((ok, ()), s, x0, ((), ()), C, ((if ok = true then 0 else 0 : Nat), (), (), (), (), ()), (hn s but), (), (((hn s but), ()), ()), t, l, u8, ())
section
variable {s : Se} {but : Nat} {x0 : Sp} {C : Int} {t l : List Int} {b : Bool} {y : R30s122v2}
theorem node_30s122v2 {i : Nat} (hi : i < s.1.length) (h : a1_30s122v2 s but x0 i (s.1.getD i sp0).1 C t l false y) : a0_30s122v2 s but x0 i C t l y := by
 refine U30s122v2_0 _ _ _ _ _ _ _ _ (Ev.eq (fun _ => Q30s122v2_0 _ _ _ _ _ _ _ _ _ _) ?_)
 simp only [Option.bind_some]
 rw [dec_t (show (i : Int) < (s.1.length : Int) by omega), dec_t (show (0 : Int) ≤ (i : Int) by omega), Int.toNat_natCast]
 simp only [Bool.and_self, cond_true]
 exact h
theorem leaf_30s122v2 (hs : VS s) (hne : t ≠ l) (h : a2_30s122v2 s but x0 (-1) 0 C t false y) : a0_30s122v2 s but x0 s.1.length C t l y := by
 refine U30s122v2_0 _ _ _ _ _ _ _ _ (Ev.eq (fun _ => Q30s122v2_0 _ _ _ _ _ _ _ _ _ _) ?_)
 simp only [Option.bind_some]
 rw [dec_f (show ¬ ((s.1.length : Int) < (s.1.length : Int)) by omega), show eqD (Ty.arr 7 (Ty.int IntKind.i64)) t l = false from (eqArr7 t l).trans (dec_f hne), L96 s but t hs.lo hs.hi]
 simp only [cond_false, Option.bind_some]
 exact h
theorem done_30s122v2 {i : Nat} {v : Int} (hi : i < s.1.length) (h : (s.1.getD i sp0).2.1 < v) : a1_30s122v2 s but x0 i v C t l b (p_30s122v2 s but x0 true C t l) := by
 refine U30s122v2_1 _ _ _ _ _ _ _ _ _ _ (Ev.eq (fun _ => Q30s122v2_1 _ _ _ _ _ _ _ _ _ _ _ _) ?_)
 simp only [Option.bind_some]
 rw [dec_t (show (i : Int) < (s.1.length : Int) by omega), dec_t (show (0 : Int) ≤ (i : Int) by omega), Int.toNat_natCast, show s.1.getD i (0, 0, ()) = s.1.getD i sp0 from rfl, dec_f (show ¬ v ≤ (s.1.getD i sp0).2.1 by omega)]
 simp only [Bool.and_self, cond_true, cond_false]
 exact Ev.all fun _ => rfl
theorem val_30s122v2 {i : Nat} {v : Int} (hs : VS s) (hi : i < s.1.length) (hv : v ≤ (s.1.getD i sp0).2.1) (h : a3_30s122v2 s but x0 i v 0 C (t.set i v) l b y) : a1_30s122v2 s but x0 i v C t l b y := by
 have h7 := hs.hi
 refine U30s122v2_1 _ _ _ _ _ _ _ _ _ _ (Ev.eq (fun _ => Q30s122v2_1 _ _ _ _ _ _ _ _ _ _ _ _) ?_)
 simp only [Option.bind_some]
 rw [dec_t (show (i : Int) < (s.1.length : Int) by omega), dec_t (show (0 : Int) ≤ (i : Int) by omega), Int.toNat_natCast, show s.1.getD i (0, 0, ()) = s.1.getD i sp0 from rfl, dec_t hv, dec_t (show (i : Int) < 7 by omega), dec_t (show i < 7 by omega)]
 simp only [Bool.and_self, cond_true]
 exact h
theorem sum_30s122v2 {i : Nat} {v : Int} {m : Nat} (hs : VS s) (hbut : but < 1000000000000) (_ : i < s.1.length) (hv : 0 ≤ v ∧ v ≤ 99) (hm : m < s.2.1.length) (ht : Good t) (h : if denS s but t i m = true then a1_30s122v2 s but x0 i (v + 1) C t l b y else a3_30s122v2 s but x0 i v (m + 1) C t l b y) : a3_30s122v2 s but x0 i v m C t l b y := by
 have h7 := hs.hi
 have hsm := hs.sums m hm
 have h4 := hs.many
 refine U30s122v2_3 _ _ _ _ _ _ _ _ _ _ _ _ _ (Ev.eq (fun _ => Q30s122v2_3 _ _ _ _ _ _ _ _ _ _ _ _ _ _ _) ?_)
 simp only [Option.bind_some]
 rw [dec_t (show (m : Int) < (s.2.1.length : Int) by omega), dec_t (show (0 : Int) ≤ (m : Int) by omega), Int.toNat_natCast, dec_f (show ¬ ((m : Int) < 0) by omega), bit_no but m hbut (by omega), wrap_succ (n := m) (by omega), wrap_id (x := v + 1) (by omega) (by omega), show s.2.1.getD m (0, 0, (0, 0, ()), ()) = s.2.1.getD m sm0 from rfl]
 simp only [Bool.and_self, cond_true, cond_false]
 unfold denS at h
 cases hu : ((s.2.1.getD m sm0).2.1 == (i : Int)) with
 | false =>
  rw [hu] at h
  simp only [Bool.false_and, Bool.false_eq_true, if_false] at h
  simp only [cond_false]
  exact h
 | true =>
  rw [hu] at h
  simp only [Bool.true_and] at h
  simp only [cond_true]
  cases hb : but.testBit m with
  | true =>
   rw [hb] at h
   simp only [Bool.not_true, Bool.false_and, Bool.false_eq_true, if_false] at h
   simp only [Bool.not_true, cond_false]
   exact h
  | false =>
   rw [hb] at h
   simp only [Bool.not_false, Bool.true_and] at h
   have hu' : (s.2.1.getD m sm0).2.1 = (i : Int) := by simpa using hu
   have e1 : (s.2.1.getD m sm0).1 = (((s.2.1.getD m sm0).1.toNat : Nat) : Int) := by omega
   have hF : F120 ((t, (s.2.1.getD m sm0).1, (i : Int), ()) : List Int × Int × Int × Unit) = some (sumL t (s.2.1.getD m sm0).1.toNat i, ()) := by
    rw [e1]
    simp only [Int.toNat_natCast]
    exact L120 ht _ _ (by omega) (by omega)
   simp only [Bool.not_false, cond_true]
   rw [hF]
   simp only [Option.bind_some]
   rw [L84_1]
   simp only [Option.bind_some]
   cases hd : (decide (sumL t (s.2.1.getD m sm0).1.toNat i < (s.2.1.getD m sm0).2.2.1.1) || decide (sumL t (s.2.1.getD m sm0).1.toNat i > (s.2.1.getD m sm0).2.2.1.2.1)) with
   | true => rw [hd, if_pos rfl] at h; exact h
   | false => rw [hd] at h; simp only [Bool.false_eq_true, if_false] at h; exact h
theorem call_30s122v2 {i : Nat} {v : Int} {ok : Bool} {C' : Int} {t' l' : List Int} (hs : VS s) (hi : i < s.1.length) (hv : 0 ≤ v ∧ v ≤ 99) (h : a0_30s122v2 s but x0 (i + 1) C t l (p_30s122v2 s but x0 ok C' t' l')) (ht : ok = true → a1_30s122v2 s but x0 i (v + 1) C' t' l' b y) (hf : ok = false → y = p_30s122v2 s but x0 false C' t' l') :
  a3_30s122v2 s but x0 i v s.2.1.length C t l b y := by
 have h7 := hs.hi
 refine U30s122v2_3 _ _ _ _ _ _ _ _ _ _ _ _ _ (Ev.eq (fun _ => Q30s122v2_3 _ _ _ _ _ _ _ _ _ _ _ _ _ _ _) ?_)
 rw [dec_f (show ¬ ((s.2.1.length : Int) < (s.2.1.length : Int)) by omega), wrap_succ (n := i) (by omega), wrap_id (x := v + 1) (by omega) (by omega)]
 simp only [cond_false]
 refine Ev.sub h ?_
 cases ok with
 | true => exact ht rfl
 | false =>
  rw [hf rfl]
  exact Ev.all fun _ => rfl
theorem top_30s122v2 {l4 : Int} {m : Nat} (hs : VS s) (hm : m < s.1.length) (h1 : -1 ≤ l4) (h2 : l4 ≤ 7) (h : if isTop s.1.length t m = true then (if (decide (l4 < 0) || inGap s.2.2.1 ((m : Int) - l4)) = true then a2_30s122v2 s but x0 m (m + 1) C t b y else y = p_30s122v2 s but x0 true C t t) else a2_30s122v2 s but x0 l4 (m + 1) C t b y) : a2_30s122v2 s but x0 l4 m C t b y := by
 have h7 := hs.hi
 have hlt := topsP_lt s.1.length t
 have h128 : 2 ^ s.1.length ≤ 128 := Nat.pow_le_pow_right (by decide) (show s.1.length ≤ 7 from h7)
 refine U30s122v2_2 _ _ _ _ _ _ _ _ _ _ _ _ (Ev.eq (fun _ => Q30s122v2_2 _ _ _ _ _ _ _ _ _ _ _ _ _ _) ?_)
 simp only [Option.bind_some]
 rw [dec_t (show (m : Int) < (s.1.length : Int) by omega), dec_f (show ¬ ((m : Int) < 0) by omega), Int.toNat_natCast, bit_no _ m (by omega) (by omega), topsP_bit, wrap_succ (n := m) (by omega), wrap_id (x := (m : Int) - l4) (by omega) (by omega), L84_1, not_gap]
 simp only [cond_true, cond_false, Option.bind_some]
 cases ht : isTop s.1.length t m with
 | false =>
  rw [ht] at h
  simp only [Bool.false_eq_true, if_false] at h
  simp only [Bool.not_false, cond_true]
  exact h
 | true =>
  rw [ht, if_pos rfl] at h
  simp only [Bool.not_true, cond_false]
  by_cases h4 : l4 ≥ 0
  ·rw [dec_t h4]
   rw [dec_f (show ¬ l4 < 0 by omega), Bool.false_or] at h
   simp only [cond_true]
   cases hg : inGap s.2.2.1 ((m : Int) - l4) with
   | true => rw [hg, if_pos rfl] at h; exact h
   | false =>
    rw [hg] at h
    simp only [Bool.false_eq_true, if_false] at h
    rw [h]
    exact Ev.all fun _ => rfl
  ·rw [dec_f h4]
   rw [dec_t (show l4 < 0 by omega), Bool.true_or, if_pos rfl] at h
   exact h
end
noncomputable def dfs_30s122v2 (s : Se) (but : Nat) (x0 : Sp) (hs : VS s) (hbut : but < 1000000000000) (step : Int → List Int → Int × Bool) (hfin : ∀ {l4 : Int} {C : Int} {t : List Int} {b : Bool}, Good t → a2_30s122v2 s but x0 l4 s.1.length C t b (p_30s122v2 s but x0 (step C t).2 (step C t).1 t t)) : Dfs (Int) (R30s122v2) s but step where
 A0 := a0_30s122v2 s but x0
 A1 := a1_30s122v2 s but x0
 A2 := a2_30s122v2 s but x0
 A3 := a3_30s122v2 s but x0
 P := p_30s122v2 s but x0
 node := node_30s122v2
 leaf := fun h _ h2 => leaf_30s122v2 hs h h2
 done := done_30s122v2
 val := fun h1 h2 h3 => val_30s122v2 hs h1 h2 h3
 pass := fun h1 h2 h3 h4 h5 h6 h7 => sum_30s122v2 hs hbut h1 ⟨h3, h2⟩ h4 h5 (by rw [h6]; simpa using h7)
 deny := fun h1 h2 h3 h4 h5 h6 h7 => sum_30s122v2 hs hbut h1 ⟨h3, h2⟩ h4 h5 (by rw [if_pos h6]; exact h7)
 call := fun h1 h2 h3 h4 h5 h6 => call_30s122v2 hs h1 ⟨h3, h2⟩ h4 h5 h6
 skip := fun h1 h2 h3 h4 h5 => top_30s122v2 hs h1 h3 h4 (by rw [h2]; simpa using h5)
 near := fun h1 h2 h3 h4 h5 h6 => top_30s122v2 hs h1 h3 h4 (by rw [if_pos h2, if_pos h5]; exact h6)
 far := fun h1 h2 h3 h4 h5 => top_30s122v2 hs h1 h3 h4 (by rw [if_pos h2, h5]; rfl)
 fin := fun h => hfin h
end Go.Proofs.YtkbephbhajplhaaDoor
