/- States at the cuts. Conditions: none. -/
import Derived.Test.YtallblpnlefpeaaRoB
import Derived.Test.YtallblpnlefpeaaRoL
namespace Go.Proofs.Ytallblpnlefpeaa
open Go Go.Gh Go.Proofs
noncomputable abbrev T116_0 (t0 : (List Int)) (t1 : (List Int)) (t9 : (List Int)) (t10 : Int) (t11 : Int) (f : Nat) : Option (denL [(.int .i64)]) := iter cx122 S116 [(.int .i64)] 6000 f 0 K116_0 (((t0, (t1, (t9, (t10, (t11, ()))))), ()), ())
theorem U116_0 (t0 : (List Int)) (t1 : (List Int)) (t9 : (List Int)) (t10 : Int) (t11 : Int) {y : denL [(.int .i64)]} (h : Ev fun k => seg cx122 S116 [(.int .i64)] 6000 some (iter cx122 S116 [(.int .i64)] 6000 k) 0 K116_0 (((t0, (t1, (t9, (t10, (t11, ()))))), ()), ()) = some y) : Ev fun k => T116_0 t0 t1 t9 t10 t11 k = some y := iter_ev h
noncomputable abbrev T115_0 (t3 : Int) (h2 : Int) (h3 : (List Int)) (f : Nat) : Option (denL [(.slice (.int .i64))]) := iter cx116 S115 [(.slice (.int .i64))] 6000 f 0 K115_0 ((((), ((), (t3, ()))), (((), ()), ())), ((), (((), ()), (h2, (h3, ())))))
theorem U115_0 (t3 : Int) (h2 : Int) (h3 : (List Int)) {y : denL [(.slice (.int .i64))]} (h : Ev fun k => seg cx116 S115 [(.slice (.int .i64))] 6000 some (iter cx116 S115 [(.slice (.int .i64))] 6000 k) 0 K115_0 ((((), ((), (t3, ()))), (((), ()), ())), ((), (((), ()), (h2, (h3, ()))))) = some y) : Ev fun k => T115_0 t3 h2 h3 k = some y := iter_ev h
noncomputable abbrev T30_0 (t0 : Int) (t5 : (List Int)) (t6 : Bool) (t11 : Int) (t12 : Int) (u21 : Int) (h0 : Int) (h1a_0 : (Option (Bk × Unit))) (f : Nat) : Option (denL [(.slice (.int .i64)), (.int .i64)]) := iter cx115 S30 [(.slice (.int .i64)), (.int .i64)] 6000 f 0 K30_0 (((t0, (((), ((), ((), ()))), (t5, (t6, (t11, (t12, ())))))), ((u21, (((), ((), ((), ()))), ())), ())), (h0, (((h1a_0, ()), ()), ())))
theorem U30_0 (t0 : Int) (t5 : (List Int)) (t6 : Bool) (t11 : Int) (t12 : Int) (u21 : Int) (h0 : Int) (h1a_0 : (Option (Bk × Unit))) {y : denL [(.slice (.int .i64)), (.int .i64)]} (h : Ev fun k => seg cx115 S30 [(.slice (.int .i64)), (.int .i64)] 6000 some (iter cx115 S30 [(.slice (.int .i64)), (.int .i64)] 6000 k) 0 K30_0 (((t0, (((), ((), ((), ()))), (t5, (t6, (t11, (t12, ())))))), ((u21, (((), ((), ((), ()))), ())), ())), (h0, (((h1a_0, ()), ()), ()))) = some y) : Ev fun k => T30_0 t0 t5 t6 t11 t12 u21 h0 h1a_0 k = some y := iter_ev h
noncomputable abbrev T32_0 (t3 : Int) (h0 : Int) (h2 : (Option (Bk × Unit))) (h4 : Int) (h5 : (List Int)) (f : Nat) : Option (denL [(.slice (.int .i64)), (.int .i64)]) := iter cx30 S32 [(.slice (.int .i64)), (.int .i64)] 6000 f 0 K32_0 ((((), ((), (t3, ()))), (((), ()), ())), (h0, ((), (h2, (((), ((), ((), ()))), (h4, (h5, ())))))))
theorem U32_0 (t3 : Int) (h0 : Int) (h2 : (Option (Bk × Unit))) (h4 : Int) (h5 : (List Int)) {y : denL [(.slice (.int .i64)), (.int .i64)]} (h : Ev fun k => seg cx30 S32 [(.slice (.int .i64)), (.int .i64)] 6000 some (iter cx30 S32 [(.slice (.int .i64)), (.int .i64)] 6000 k) 0 K32_0 ((((), ((), (t3, ()))), (((), ()), ())), (h0, ((), (h2, (((), ((), ((), ()))), (h4, (h5, ()))))))) = some y) : Ev fun k => T32_0 t3 h0 h2 h4 h5 k = some y := iter_ev h
noncomputable abbrev T34_0 (t0 : Int) (t5 : (List Int)) (t6 : Bool) (t11 : Int) (t12 : Int) (u23 : Int) (h0 : Int) (h1 : (Option (Bk × Unit))) (h2 : Int) (f : Nat) : Option (denL [(.slice (.int .i64)), (.int .i64)]) := iter cx32 S34 [(.slice (.int .i64)), (.int .i64)] 6000 f 0 K34_0 (((t0, (((), ((), ((), ((), ())))), (t5, (t6, (t11, (t12, ())))))), ((u23, (((), ((), ((), ((), ())))), ())), ())), (h0, (h1, (h2, ()))))
theorem U34_0 (t0 : Int) (t5 : (List Int)) (t6 : Bool) (t11 : Int) (t12 : Int) (u23 : Int) (h0 : Int) (h1 : (Option (Bk × Unit))) (h2 : Int) {y : denL [(.slice (.int .i64)), (.int .i64)]} (h : Ev fun k => seg cx32 S34 [(.slice (.int .i64)), (.int .i64)] 6000 some (iter cx32 S34 [(.slice (.int .i64)), (.int .i64)] 6000 k) 0 K34_0 (((t0, (((), ((), ((), ((), ())))), (t5, (t6, (t11, (t12, ())))))), ((u23, (((), ((), ((), ((), ())))), ())), ())), (h0, (h1, (h2, ())))) = some y) : Ev fun k => T34_0 t0 t5 t6 t11 t12 u23 h0 h1 h2 k = some y := iter_ev h
noncomputable abbrev T36_0 (t0 : Int) (t5 : (List Int)) (t6 : Bool) (t11 : Int) (t12 : Int) (u17 : Int) (h0 : (Option (Bk × Unit))) (h1 : Int) (f : Nat) : Option (denL [(.slice (.int .i64)), (.int .i64)]) := iter cx34 S36 [(.slice (.int .i64)), (.int .i64)] 6000 f 0 K36_0 (((t0, (((), ((), ((), ()))), (t5, (t6, (t11, (t12, ())))))), ((u17, (((), ((), ((), ()))), ())), ())), (h0, (h1, ())))
theorem U36_0 (t0 : Int) (t5 : (List Int)) (t6 : Bool) (t11 : Int) (t12 : Int) (u17 : Int) (h0 : (Option (Bk × Unit))) (h1 : Int) {y : denL [(.slice (.int .i64)), (.int .i64)]} (h : Ev fun k => seg cx34 S36 [(.slice (.int .i64)), (.int .i64)] 6000 some (iter cx34 S36 [(.slice (.int .i64)), (.int .i64)] 6000 k) 0 K36_0 (((t0, (((), ((), ((), ()))), (t5, (t6, (t11, (t12, ())))))), ((u17, (((), ((), ((), ()))), ())), ())), (h0, (h1, ()))) = some y) : Ev fun k => T36_0 t0 t5 t6 t11 t12 u17 h0 h1 k = some y := iter_ev h
noncomputable abbrev T28_0 (t38 : Int) (t39 : Int) (h0 : (List Fd)) (h1 : (List Fd)) (h2 : (List Int)) (f : Nat) : Option (denL [(.slice (.int .i64)), (.int .i64)]) := iter cx36 S28 [(.slice (.int .i64)), (.int .i64)] 6000 f 0 K28_0 ((((), ((), ((), (t38, (t39, ()))))), ()), (h0, (h1, (h2, ()))))
theorem U28_0 (t38 : Int) (t39 : Int) (h0 : (List Fd)) (h1 : (List Fd)) (h2 : (List Int)) {y : denL [(.slice (.int .i64)), (.int .i64)]} (h : Ev fun k => seg cx36 S28 [(.slice (.int .i64)), (.int .i64)] 6000 some (iter cx36 S28 [(.slice (.int .i64)), (.int .i64)] 6000 k) 0 K28_0 ((((), ((), ((), (t38, (t39, ()))))), ()), (h0, (h1, (h2, ())))) = some y) : Ev fun k => T28_0 t38 t39 h0 h1 h2 k = some y := iter_ev h
end Go.Proofs.Ytallblpnlefpeaa
/- The rows of a set, lists in order, and the fewest rows that do: what these come to. Conditions: as each lemma states. -/
namespace Go.Proofs.Ytallblpnlefpeaa
open Go Go.Gh Go.Proofs
def lstN (set : Nat) : List Int := numsL (fun i => set.testBit i) 8
theorem bits_nums (k : Nat) (p : Nat → Bool) (i : Nat) : (Few.bitsL (numsL p k)).testBit i = (decide (i < k) && p i) := by
 have h0 : ∀ x ∈ numsL p k, 0 ≤ x := fun x hx => by
  obtain ⟨n, _, _, rfl⟩ := numsL_mem.1 hx
  omega
 rw [Bool.eq_iff_iff, Few.bitsL_bit h0, numsL_mem, Bool.and_eq_true, decide_eq_true_eq]
 constructor
 ·rintro ⟨n, h1, h2, h3⟩
  have : n = i := by omega
  exact this ▸ ⟨h1, h2⟩
 ·rintro ⟨h1, h2⟩
  exact ⟨i, h1, h2, rfl⟩
theorem bits_lst {set : Nat} (h : set < 2 ^ 8) : Few.bitsL (lstN set) = set := by
 apply Nat.eq_of_testBit_eq
 intro i
 rw [lstN, bits_nums]
 by_cases hi : i < 8
 ·rw [dec_t hi, Bool.true_and]
 ·rw [dec_f hi, Bool.false_and, Nat.testBit_lt_two_pow (Nat.lt_of_lt_of_le h (Nat.pow_le_pow_right (by decide) (by omega)))]
theorem lst_len (set : Nat) : (lstN set).length ≤ 8 := numsL_len _ _
theorem numsL_stop {set i : Nat} (h : set / 2 ^ i = 0) (p : Nat → Bool) (hp : ∀ j, p j = true → set.testBit j = true) : ∀ c, numsL p (i + c) = numsL p i
 | 0 => rfl
 | c + 1 => by
  rw [show i + (c + 1) = (i + c) + 1 by omega, numsL_succ]
  have hf : p (i + c) = false := by
   cases hq : p (i + c) with
   | false => rfl
   | true =>
    have := hp _ hq
    rw [bit_small h (show i ≤ i + c by omega)] at this
    cases this
  rw [hf, if_neg (by decide)]
  exact numsL_stop h p hp c
theorem L115 (set : Nat) (hs : set < 2 ^ 8) : F115 (((set : Int), ()) : Int × Unit) = some (lstN set, ()) := by
 refine ghost_eq (Ev.eq (fun _ => E115 _ _) ?_)
 have key : ∀ (c i : Nat), i + c = 8 → Ev fun k => T115_0 i set (numsL (fun j => set.testBit j) i) k = some (lstN set, ()) := by
  intro c
  induction c with
  | zero =>
   intro i hi
   obtain rfl : i = 8 := by omega
   refine U115_0 _ _ _ (Ev.eq (fun _ => Q115_0 _ _ _ _) ?_)
   rw [dec_f (show ¬ (((8 : Nat) : Int) < 0) by omega), Int.toNat_natCast, fdiv_pow set 8 (by omega), Nat.div_eq_of_lt hs]
   exact Ev.all fun _ => by first | rfl | trivial
  | succ c ih =>
   intro i hi
   refine U115_0 _ _ _ (Ev.eq (fun _ => Q115_0 _ _ _ _) ?_)
   have hn := ih (i + 1) (by omega)
   have hl := numsL_len (fun j => set.testBit j) i
   rw [numsL_succ] at hn
   rw [dec_f (show ¬ ((i : Int) < 0) by omega), Int.toNat_natCast, bit_ok set i (by omega) (by omega), fdiv_pow set i (by omega), wrap_succ (n := i) (by omega), one_set]
   simp only [cond_false]
   by_cases hz : set / 2 ^ i = 0
   ·rw [dec_f (by rw [hz]; decide), show lstN set = numsL (fun j => set.testBit j) i by unfold lstN; rw [show 8 = i + (c + 1) by omega]; exact numsL_stop hz _ (fun _ h => h) _]
    exact Ev.all fun _ => by first | rfl | trivial
   ·rw [dec_t (show (((set / 2 ^ i : Nat) : Int)) > 0 from Int.ofNat_lt.2 (Nat.pos_of_ne_zero hz)), dec_t (show (numsL (fun j => set.testBit j) i).length + [(i : Int)].length ≤ 2147483648 by simp only [List.length_cons, List.length_nil]; omega)]
    simp only [cond_true]
    cases hb : set.testBit i with
    | true =>
     rw [hb, if_pos rfl] at hn
     exact hn
    | false =>
     rw [hb, if_neg (by decide)] at hn
     exact hn
 exact key 8 0 (by omega)
theorem L130 (x : Int) : F130 ((x, ()) : Int × Unit) = some (false, ()) := by
 refine ghost_eq (Ev.eq (fun _ => E130 _ _) ?_)
 exact Ev.all fun _ => by simp
theorem L122 (x y : Int) : F122 ((x, y, ()) : Int × Int × Unit) = some (Few.cmp1 x y, ()) := by
 refine ghost_eq (Ev.eq (fun _ => E122 _ _ _) ?_)
 rw [L130, L130]
 unfold Few.cmp1
 simp only [Option.bind_some, cond_false]
 by_cases h1 : x < y
 ·rw [dec_t h1, if_pos h1]
  exact Ev.all fun _ => by first | rfl | trivial
 ·rw [dec_f h1, if_neg h1]
  simp only [cond_false]
  by_cases h2 : x > y
  ·rw [dec_t h2, if_pos h2]
   exact Ev.all fun _ => by first | rfl | trivial
  ·rw [dec_f h2, if_neg h2]
   exact Ev.all fun _ => by first | rfl | trivial
theorem L116 (l p : List Int) (hl : l.length < 1000000000) : F116 ((l, p, ()) : List Int × List Int × Unit) = some (Few.cmpL l p, ()) := by
 refine ghost_eq (Ev.eq (fun _ => E116 _ _ _) ?_)
 have key : ∀ (c i : Nat), i + c = l.length → Few.cmpL (l.drop i) (p.drop i) = Few.cmpL l p → i ≤ p.length → Ev fun k => T116_0 l p l l.length i k = some (Few.cmpL l p, ()) := by
  intro c
  induction c with
  | zero =>
   intro i hi he hp
   refine U116_0 _ _ _ _ _ (Ev.eq (fun _ => Q116_0 _ _ _ _ _ _) ?_)
   rw [dec_f (show ¬ ((i : Int) < (l.length : Int)) by omega), ← he, List.drop_eq_nil_of_le (show l.length ≤ i by omega)]
   simp only [cond_false]
   by_cases h : (l.length : Int) < (p.length : Int)
   ·rw [dec_t h, List.drop_eq_getElem_cons (show i < p.length by omega)]
    exact Ev.all fun _ => by first | rfl | trivial
   ·rw [dec_f h, List.drop_eq_nil_of_le (by omega)]
    exact Ev.all fun _ => by first | rfl | trivial
  | succ c ih =>
   intro i hi he hp
   refine U116_0 _ _ _ _ _ (Ev.eq (fun _ => Q116_0 _ _ _ _ _ _) ?_)
   have hlt : i < l.length := by omega
   rw [dec_t (show (i : Int) < (l.length : Int) by omega), dec_t (show (0 : Int) ≤ (i : Int) by omega), wrap_succ (n := i) (by omega), Int.toNat_natCast, getD_lt hlt]
   simp only [Bool.and_self, cond_true, Bool.true_and]
   rw [List.drop_eq_getElem_cons hlt] at he
   by_cases h : i < p.length
   ·rw [dec_f (show ¬ ((i : Int) ≥ (p.length : Int)) by omega), dec_t (show (i : Int) < (p.length : Int) by omega), getD_lt h, L122]
    rw [List.drop_eq_getElem_cons h, Few.cmpL] at he
    simp only [cond_true, cond_false, Option.bind_some]
    by_cases hc : Few.cmp1 l[i] p[i] = 0
    ·rw [if_neg (fun h => h hc)] at he
     rw [hc]
     exact ih (i + 1) (by omega) he (by omega)
    ·rw [if_pos hc] at he
     rw [bne_iff_ne.2 hc, ← he]
     exact Ev.all fun _ => by first | rfl | trivial
   ·rw [dec_t (show (i : Int) ≥ (p.length : Int) by omega), ← he, List.drop_eq_nil_of_le (show p.length ≤ i by omega)]
    exact Ev.all fun _ => by first | rfl | trivial
 exact key l.length 0 (by omega) rfl (Nat.zero_le _)
def restL (rows s c : Nat) : List (List Int) := ((List.range' s c).filter fun set => butN set rows == 0).map lstN
theorem restL_succ (rows s c : Nat) : restL rows s (c + 1) = if butN s rows = 0 then lstN s :: restL rows (s + 1) c else restL rows (s + 1) c := by
 unfold restL
 rw [List.range'_succ, List.filter_cons]
 by_cases h : butN s rows = 0
 ·rw [if_pos h, if_pos (by rw [h]; rfl), List.map_cons]
 ·rw [if_neg h, if_neg (by simpa using h)]
theorem gtc (a c : Nat) : decide ((a : Int) > (c : Int)) = decide (a > c) := by
 by_cases h : a > c
 ·rw [dec_t h, dec_t (by omega)]
 ·rw [dec_f h, dec_f (by omega)]
theorem eqc (a c : Nat) : ((a : Int) == (c : Int)) = (a == c) := by
 rw [Bool.eq_iff_iff, beq_iff_eq, beq_iff_eq]
 omega
theorem copyL (l : List Int) : List.take 0 (List.replicate (Int.toNat (l.length : Int)) (0 : Int)) ++ List.take (min l.length (List.length (List.replicate (Int.toNat (l.length : Int)) (0 : Int)))) l ++ List.drop (0 + min l.length (List.length (List.replicate (Int.toNat (l.length : Int)) (0 : Int)))) (List.replicate (Int.toNat (l.length : Int)) (0 : Int)) = l := by
 simp
def okG (b : Bk) (n : Nat) (l : List Int) : Bool := ((allP b (Few.bitsL l)).getD n fd0).1
def okC (b : Bk) (n : Nat) (l : List Int) : Bool := !((allP b (butN (rowsN b) (Few.bitsL l))).getD n fd0).1
def okW (b : Bk) (l : List Int) : Bool := (clashP b (butN (rowsN b) (Few.bitsL l))).isNone
theorem end_none (o : Option (Nat × Nat × Nat)) : (!(endC o).2.2.2.1) = o.isNone := by
 rcases o with _ | ⟨n, i, k⟩ <;> rfl
theorem fe30 (b : Bk) (hv : VB b) (n : Nat) (hn : n < 6) : ∀ (c s : Nat) (best : List Int) (found : Bool), s + c = rowsN b + 1 → best.length ≤ 8 →
  Ev fun k => T30_0 (rowsN b) best found ((rowsN b + 1 : Nat) : Int) s (rowsN b) n (some (b, ())) k = some ((Few.scan (okG b n) (restL (rowsN b) s c) best found).1, 0, ()) := by
 have hr := rowsN_lt hv.r8
 intro c
 induction c with
 | zero =>
  intro s best found hs hb
  refine U30_0 _ _ _ _ _ _ _ _ (Ev.eq (fun _ => Q30_0 _ _ _ _ _ _ _ _ _) ?_)
  rw [dec_f (show ¬ ((s : Int) < ((rowsN b + 1 : Nat) : Int)) by omega), copyL, dec_t (show (0 : Int) ≤ (best.length : Int) by omega), dec_t (show (best.length : Int) ≤ 2147483648 by omega), dec_t (rfl : (best.length : Int) = best.length)]
  exact Ev.all fun _ => by first | rfl | trivial
 | succ c ih =>
  intro s best found hs hb
  refine U30_0 _ _ _ _ _ _ _ _ (Ev.eq (fun _ => Q30_0 _ _ _ _ _ _ _ _ _) ?_)
  have hlen := lst_len s
  have i1 := fun best found hb => ih (s + 1) best found (by omega) hb
  have i2 := i1 (lstN s) true hlen
  have i3 := i1 best found hb
  have hdo : F96 ((some ((b, ()) : Bk × Unit), (n : Int), (s : Int), ()) : Option (Bk × Unit) × Int × Int × Unit) = some (okG b n (lstN s), ()) := by rw [L96 b hv n s hn (by omega), okG, bits_lst (by omega)]
  rw [dec_t (show (s : Int) < ((rowsN b + 1 : Nat) : Int) by omega), andNot_nat s (rowsN b) (by omega) (by omega), wrap_succ (n := s) (by omega), L115 s (by omega), restL_succ]
  simp only [cond_true, Option.bind_some]
  by_cases hz : butN s (rowsN b) = 0
  ·rw [hz, if_pos rfl, Few.scan, L116 _ _ (by omega), gtc, eqc, hdo, show Few.worse (lstN s) best = (decide ((lstN s).length > best.length) || ((lstN s).length == best.length && decide (Few.cmpL (lstN s) best > 0))) from rfl]
   simp only [Option.bind_some, show (((0 : Nat) : Int) != 0) = false from rfl, cond_false]
   have tail : Ev fun k => (bif (okG b n) (lstN s) then T30_0 (rowsN b) (lstN s) true ((rowsN b + 1 : Nat) : Int) ((s + 1 : Nat) : Int) (rowsN b) n (some (b, ())) k else T30_0 (rowsN b) best found ((rowsN b + 1 : Nat) : Int) ((s + 1 : Nat) : Int) (rowsN b) n (some (b, ())) k) = some ((if (okG b n) (lstN s) = true then Few.scan (okG b n) (restL (rowsN b) (s + 1) c) (lstN s) true else Few.scan (okG b n) (restL (rowsN b) (s + 1) c) best found).1, 0, ()) := by
    cases (okG b n) (lstN s) with
    | true => exact i2
    | false => exact i3
   cases found with
   | false =>
    exact tail
   | true =>
    cases decide ((lstN s).length > best.length) with
    | true => exact i3
    | false =>
     cases (lstN s).length == best.length with
     | false => exact tail
     | true =>
      cases decide (Few.cmpL (lstN s) best > 0) with
      | true => exact i3
      | false => exact tail
  ·rw [if_neg hz, show (((butN s (rowsN b) : Nat) : Int) != 0) = true from bne_iff_ne.2 (by omega)]
   exact i3
theorem fe34 (b : Bk) (hv : VB b) (n : Nat) (hn : n < 6) : ∀ (c s : Nat) (best : List Int) (found : Bool), s + c = rowsN b + 1 → best.length ≤ 8 →
  Ev fun k => T34_0 (rowsN b) best found ((rowsN b + 1 : Nat) : Int) s (rowsN b) n (some (b, ())) (rowsN b) k = some ((Few.scan (okC b n) (restL (rowsN b) s c) best found).1, 0, ()) := by
 have hr := rowsN_lt hv.r8
 intro c
 induction c with
 | zero =>
  intro s best found hs hb
  refine U34_0 _ _ _ _ _ _ _ _ _ (Ev.eq (fun _ => Q34_0 _ _ _ _ _ _ _ _ _ _) ?_)
  rw [dec_f (show ¬ ((s : Int) < ((rowsN b + 1 : Nat) : Int)) by omega), copyL, dec_t (show (0 : Int) ≤ (best.length : Int) by omega), dec_t (show (best.length : Int) ≤ 2147483648 by omega), dec_t (rfl : (best.length : Int) = best.length)]
  exact Ev.all fun _ => by first | rfl | trivial
 | succ c ih =>
  intro s best found hs hb
  refine U34_0 _ _ _ _ _ _ _ _ _ (Ev.eq (fun _ => Q34_0 _ _ _ _ _ _ _ _ _ _) ?_)
  have hlen := lst_len s
  have i1 := fun best found hb => ih (s + 1) best found (by omega) hb
  have i2 := i1 (lstN s) true hlen
  have i3 := i1 best found hb
  have hdo : F96 ((some ((b, ()) : Bk × Unit), (n : Int), bitF BinOp.andNot IntKind.i64 (rowsN b : Int) (s : Int), ()) : Option (Bk × Unit) × Int × Int × Unit) = some (!okC b n (lstN s), ()) := by rw [andNot_nat (rowsN b) s (by omega) (by omega), L96 b hv n _ hn (Nat.lt_of_le_of_lt (butN_le _ _) (by omega)), okC, bits_lst (by omega), Bool.not_not]
  rw [dec_t (show (s : Int) < ((rowsN b + 1 : Nat) : Int) by omega), andNot_nat s (rowsN b) (by omega) (by omega), wrap_succ (n := s) (by omega), L115 s (by omega), restL_succ]
  simp only [cond_true, Option.bind_some]
  by_cases hz : butN s (rowsN b) = 0
  ·rw [hz, if_pos rfl, Few.scan, L116 _ _ (by omega), gtc, eqc, hdo, show Few.worse (lstN s) best = (decide ((lstN s).length > best.length) || ((lstN s).length == best.length && decide (Few.cmpL (lstN s) best > 0))) from rfl]
   simp only [Option.bind_some, show (((0 : Nat) : Int) != 0) = false from rfl, cond_false, Bool.not_not]
   have tail : Ev fun k => (bif (okC b n) (lstN s) then T34_0 (rowsN b) (lstN s) true ((rowsN b + 1 : Nat) : Int) ((s + 1 : Nat) : Int) (rowsN b) n (some (b, ())) (rowsN b) k else T34_0 (rowsN b) best found ((rowsN b + 1 : Nat) : Int) ((s + 1 : Nat) : Int) (rowsN b) n (some (b, ())) (rowsN b) k) = some ((if (okC b n) (lstN s) = true then Few.scan (okC b n) (restL (rowsN b) (s + 1) c) (lstN s) true else Few.scan (okC b n) (restL (rowsN b) (s + 1) c) best found).1, 0, ()) := by
    cases (okC b n) (lstN s) with
    | true => exact i2
    | false => exact i3
   cases found with
   | false =>
    exact tail
   | true =>
    cases decide ((lstN s).length > best.length) with
    | true => exact i3
    | false =>
     cases (lstN s).length == best.length with
     | false => exact tail
     | true =>
      cases decide (Few.cmpL (lstN s) best > 0) with
      | true => exact i3
      | false => exact tail
  ·rw [if_neg hz, show (((butN s (rowsN b) : Nat) : Int) != 0) = true from bne_iff_ne.2 (by omega)]
   exact i3
theorem fe36 (b : Bk) (hv : VB b) : ∀ (c s : Nat) (best : List Int) (found : Bool), s + c = rowsN b + 1 → best.length ≤ 8 →
  Ev fun k => T36_0 (rowsN b) best found ((rowsN b + 1 : Nat) : Int) s (rowsN b) (some (b, ())) (rowsN b) k = some ((Few.scan (okW b) (restL (rowsN b) s c) best found).1, 0, ()) := by
 have hr := rowsN_lt hv.r8
 intro c
 induction c with
 | zero =>
  intro s best found hs hb
  refine U36_0 _ _ _ _ _ _ _ _ (Ev.eq (fun _ => Q36_0 _ _ _ _ _ _ _ _ _) ?_)
  rw [dec_f (show ¬ ((s : Int) < ((rowsN b + 1 : Nat) : Int)) by omega), copyL, dec_t (show (0 : Int) ≤ (best.length : Int) by omega), dec_t (show (best.length : Int) ≤ 2147483648 by omega), dec_t (rfl : (best.length : Int) = best.length)]
  exact Ev.all fun _ => by first | rfl | trivial
 | succ c ih =>
  intro s best found hs hb
  refine U36_0 _ _ _ _ _ _ _ _ (Ev.eq (fun _ => Q36_0 _ _ _ _ _ _ _ _ _) ?_)
  have hlen := lst_len s
  have i1 := fun best found hb => ih (s + 1) best found (by omega) hb
  have i2 := i1 (lstN s) true hlen
  have i3 := i1 best found hb
  have hdo : F89 ((some ((b, ()) : Bk × Unit), bitF BinOp.andNot IntKind.i64 (rowsN b : Int) (s : Int), ()) : Option (Bk × Unit) × Int × Unit) = some (endC (clashP b (butN (rowsN b) s))) := by rw [andNot_nat (rowsN b) s (by omega) (by omega), L89 b hv _ (Nat.lt_of_le_of_lt (butN_le _ _) (by omega))]
  rw [dec_t (show (s : Int) < ((rowsN b + 1 : Nat) : Int) by omega), andNot_nat s (rowsN b) (by omega) (by omega), wrap_succ (n := s) (by omega), L115 s (by omega), restL_succ]
  simp only [cond_true, Option.bind_some]
  by_cases hz : butN s (rowsN b) = 0
  ·rw [hz, if_pos rfl, Few.scan, L116 _ _ (by omega), gtc, eqc, hdo, show Few.worse (lstN s) best = (decide ((lstN s).length > best.length) || ((lstN s).length == best.length && decide (Few.cmpL (lstN s) best > 0))) from rfl]
   simp only [Option.bind_some, show (((0 : Nat) : Int) != 0) = false from rfl, cond_false, end_none, show (clashP b (butN (rowsN b) s)).isNone = okW b (lstN s) by rw [okW, bits_lst (by omega)]]
   have tail : Ev fun k => (bif (okW b) (lstN s) then T36_0 (rowsN b) (lstN s) true ((rowsN b + 1 : Nat) : Int) ((s + 1 : Nat) : Int) (rowsN b) (some (b, ())) (rowsN b) k else T36_0 (rowsN b) best found ((rowsN b + 1 : Nat) : Int) ((s + 1 : Nat) : Int) (rowsN b) (some (b, ())) (rowsN b) k) = some ((if (okW b) (lstN s) = true then Few.scan (okW b) (restL (rowsN b) (s + 1) c) (lstN s) true else Few.scan (okW b) (restL (rowsN b) (s + 1) c) best found).1, 0, ()) := by
    cases (okW b) (lstN s) with
    | true => exact i2
    | false => exact i3
   cases found with
   | false =>
    exact tail
   | true =>
    cases decide ((lstN s).length > best.length) with
    | true => exact i3
    | false =>
     cases (lstN s).length == best.length with
     | false => exact tail
     | true =>
      cases decide (Few.cmpL (lstN s) best > 0) with
      | true => exact i3
      | false => exact tail
  ·rw [if_neg hz, show (((butN s (rowsN b) : Nat) : Int) != 0) = true from bne_iff_ne.2 (by omega)]
   exact i3
end Go.Proofs.Ytallblpnlefpeaa
