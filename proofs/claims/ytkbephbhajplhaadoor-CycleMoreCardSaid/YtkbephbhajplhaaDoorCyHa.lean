/- What the ghost comes to: helpers of the outright statements. Conditions: none (equations, each by computation). -/
import Derived.Test.YtkbephbhajplhaaDoorCyV
import Derived.Test.YtkbephbhajplhaaDoorGhI
import Derived.Test.YtkbephbhajplhaaDoorCyY
namespace Go.Proofs.YtkbephbhajplhaaDoor
open Go Go.Gh Go.Proofs
def S109 : List Gh.Spec := []
noncomputable def F109 : denL [(.slice (.int .u8)), (.int .i64)] → Option (denL [(.int .i64)]) := ghost cx23 S109 6000 109 [(.slice (.int .u8)), (.int .i64)] [(.int .i64)]
noncomputable def C109 : Con := ⟨[(.slice (.int .u8)), (.int .i64)], [(.int .i64)], F109⟩
noncomputable def cx109 : Ctx := cx23.add 109 C109
def S38 : List Gh.Spec := []
abbrev GT38 : Type := (n : Nat) → Kept → denK (specAt S38 n) → Option (denL [.bool])
theorem E38 (G : GT38) (t0 : Se) : enter cx109 S38 [.bool] 6000 some G 38 [tSe] (t0, ()) =
  Option.bind (F18 (t0, ())) fun (y : Int × Int × Int × Unit) => some (Prod.fst (Prod.snd (Prod.snd y)) == 0, ()) := by kernel_rfl
noncomputable def F38 : denL [tSe] → Option (denL [.bool]) := ghost cx109 S38 6000 38 [tSe] [.bool]
noncomputable def C38 : Con := ⟨[tSe], [.bool], F38⟩
noncomputable def cx38 : Ctx := cx109.add 38 C38
def S51 : List Gh.Spec := []
abbrev GT51 : Type := (n : Nat) → Kept → denK (specAt S51 n) → Option (denL [.bool])
theorem E51 (G : GT51) (t0 : Se) : enter cx38 S51 [.bool] 6000 some G 51 [tSe] (t0, ()) =
  Option.bind (F38 (t0, ())) fun (y : Bool × Unit) => bif Prod.fst y then Option.bind (F52 (t0, ())) fun (y : List (List Int) × Unit) => some (decide ((↑(List.length (Prod.fst y)) : Int) > 0), ()) else some (false, ()) := by kernel_rfl
noncomputable def F51 : denL [tSe] → Option (denL [.bool]) := ghost cx38 S51 6000 51 [tSe] [.bool]
noncomputable def C51 : Con := ⟨[tSe], [.bool], F51⟩
noncomputable def cx51 : Ctx := cx38.add 51 C51
def S39 : List Gh.Spec := [{ key := (0, 39, 3, 1), frs := [{ fn := 39, n := 98, regs := [(1, (.dat (.slice (.int .u8)))), (2, (.dat (.slice (.int .u8)))), (3, (.ptr 390003 [])), (6, (.ptr 390006 [])), (8, (.row 390041)), (9, (.dat (.int .i64)))], round := none, defers := [] }], heap := [(390003, .box (.dat tSe) false), (390006, .box (.dat tSe) false), (390041, .row (.int .i64) false)] }, { key := (0, 39, 9, 1), frs := [{ fn := 39, n := 98, regs := [(2, (.dat (.slice (.int .u8)))), (3, (.ptr 390003 [])), (6, (.ptr 390006 [])), (8, (.row 390041)), (11, (.dat (.int .i64)))], round := none, defers := [] }], heap := [(390003, .box (.agg [(.dat (.slice tSp)), (.row 390045), (.dat tSp)]) false), (390006, .box (.dat tSe) false), (390041, .row (.int .i64) true), (390045, .row tSm false)] }]
noncomputable def F39 : denL [tSe, (.slice (.int .u8)), (.slice (.int .u8))] → Option (denL [tSe, (.slice (.int .i64))]) := ghost cx51 S39 6000 39 [tSe, (.slice (.int .u8)), (.slice (.int .u8))] [tSe, (.slice (.int .i64))]
noncomputable def C39 : Con := ⟨[tSe, (.slice (.int .u8)), (.slice (.int .u8))], [tSe, (.slice (.int .i64))], F39⟩
noncomputable def cx39 : Ctx := cx51.add 39 C39
def S43 : List Gh.Spec := []
noncomputable def F43 : denL [(.int .i64), .bool] → Option (denL [.bool]) := ghost cx39 S43 6000 43 [(.int .i64), .bool] [.bool]
noncomputable def C43 : Con := ⟨[(.int .i64), .bool], [.bool], F43⟩
noncomputable def cx43 : Ctx := cx39.add 43 C43
def S45 : List Gh.Spec := []
abbrev GT45 : Type := (n : Nat) → Kept → denK (specAt S45 n) → Option (denL [.bool])
theorem E45 (G : GT45) (t0 : Sp) : enter cx43 S45 [.bool] 6000 some G 45 [tSp] (t0, ()) =
  Option.bind (F85 (Prod.fst t0, 0, 693, ())) fun (y : Bool × Unit) => bif Prod.fst y then Option.bind (F85 (Prod.fst (Prod.snd t0), 1, 7, ())) fun (y : Bool × Unit) => some (Prod.fst y, ()) else some (false, ()) := by kernel_rfl
noncomputable def F45 : denL [tSp] → Option (denL [.bool]) := ghost cx43 S45 6000 45 [tSp] [.bool]
noncomputable def C45 : Con := ⟨[tSp], [.bool], F45⟩
noncomputable def cx45 : Ctx := cx43.add 45 C45
def S48 : List Gh.Spec := []
abbrev GT48 : Type := (n : Nat) → Kept → denK (specAt S48 n) → Option (denL [.bool])
theorem E48 (G : GT48) (t0 : Sp) (t1 : Sp) : enter cx45 S48 [.bool] 6000 some G 48 [tSp, tSp] (t0, (t1, ())) =
  some (decide (IntKind.wrap IntKind.i64 (Prod.fst t0 * Prod.fst (Prod.snd t1)) < IntKind.wrap IntKind.i64 (Prod.fst t1 * Prod.fst (Prod.snd t0))), ()) := by kernel_rfl
noncomputable def F48 : denL [tSp, tSp] → Option (denL [.bool]) := ghost cx45 S48 6000 48 [tSp, tSp] [.bool]
noncomputable def C48 : Con := ⟨[tSp, tSp], [.bool], F48⟩
noncomputable def cx48 : Ctx := cx45.add 48 C48
def S53 : List Gh.Spec := [{ key := (0, 53, 1, 1), frs := [{ fn := 53, n := 14, regs := [(0, (.dat (.int .i64))), (1, (.dat (.int .i64)))], round := none, defers := [] }], heap := [] }]
noncomputable def F53 : denL [(.int .i64), (.int .i64)] → Option (denL [.bool]) := ghost cx48 S53 6000 53 [(.int .i64), (.int .i64)] [.bool]
noncomputable def C53 : Con := ⟨[(.int .i64), (.int .i64)], [.bool], F53⟩
noncomputable def cx53 : Ctx := cx48.add 53 C53
def S55 : List Gh.Spec := [{ key := (0, 55, 2, 1), frs := [{ fn := 55, n := 36, regs := [(0, (.dat (.slice (.int .i64)))), (1, (.dat (.int .i64))), (5, (.dat (.int .i64)))], round := none, defers := [] }], heap := [] }]
noncomputable def F55 : denL [(.slice (.int .i64)), (.int .i64)] → Option (denL [.bool]) := ghost cx53 S55 6000 55 [(.slice (.int .i64)), (.int .i64)] [.bool]
noncomputable def C55 : Con := ⟨[(.slice (.int .i64)), (.int .i64)], [.bool], F55⟩
noncomputable def cx55 : Ctx := cx53.add 55 C55
def S56 : List Gh.Spec := []
noncomputable def F56 : denL [(.slice (.int .i64)), (.slice (.int .i64))] → Option (denL [.bool]) := ghost cx55 S56 6000 56 [(.slice (.int .i64)), (.slice (.int .i64))] [.bool]
noncomputable def C56 : Con := ⟨[(.slice (.int .i64)), (.slice (.int .i64))], [.bool], F56⟩
noncomputable def cx56 : Ctx := cx55.add 56 C56
def S57 : List Gh.Spec := []
abbrev GT57 : Type := (n : Nat) → Kept → denK (specAt S57 n) → Option (denL [.bool])
theorem E57 (G : GT57) (t0 : Sp) (t1 : Sp) : enter cx56 S57 [.bool] 6000 some G 57 [tSp, tSp] (t0, (t1, ())) =
  bif decide (Prod.fst t0 ≥ Prod.fst t1) then some (decide (Prod.fst (Prod.snd t0) ≤ Prod.fst (Prod.snd t1)), ()) else some (false, ()) := by kernel_rfl
noncomputable def F57 : denL [tSp, tSp] → Option (denL [.bool]) := ghost cx56 S57 6000 57 [tSp, tSp] [.bool]
noncomputable def C57 : Con := ⟨[tSp, tSp], [.bool], F57⟩
noncomputable def cx57 : Ctx := cx56.add 57 C57
def S58 : List Gh.Spec := [{ key := (0, 58, 2, 1), frs := [{ fn := 58, n := 19, regs := [(0, (.dat (.slice (.int .i64)))), (1, (.dat (.slice (.int .i64)))), (5, (.dat (.int .i64)))], round := none, defers := [] }], heap := [] }]
noncomputable def K58_0 : Kept := { todos := [[.inLoop (cAt Tryd.f58 [1, 0, 1, 0, 0]), .inBlock 0, .code (cAt Tryd.f58 [1, 1])]], cs := [] }
abbrev GT58 : Type := (n : Nat) → Kept → denK (specAt S58 n) → Option (denL [.bool])
theorem E58 (G : GT58) (t0 : (List Int)) (t1 : (List Int)) : enter cx57 S58 [.bool] 6000 some G 58 [(.slice (.int .i64)), (.slice (.int .i64))] (t0, (t1, ())) =
  G 0 K58_0 (((t0, t1, 0, ()), ()), ()) := by kernel_rfl
theorem Q58_0 (G : GT58) (t0 : (List Int)) (t1 : (List Int)) (t5 : Int) : seg cx57 S58 [.bool] 6000 some G 0 K58_0 (((t0, (t1, (t5, ()))), ()), ()) =
  bif decide (t5 < (↑(List.length t0) : Int)) then bif decide (0 ≤ t5) && decide (t5 < (↑(List.length t0) : Int)) then Option.bind (F44 (t1, List.getD t0 (Int.toNat t5) 0, ())) fun (y : Bool × Unit) => bif !Prod.fst y then some (false, ()) else G 0 K58_0 (((t0, t1, IntKind.wrap IntKind.i64 (t5 + 1), ()), ()), ()) else none else some (true, ()) := by kernel_rfl
noncomputable def F58 : denL [(.slice (.int .i64)), (.slice (.int .i64))] → Option (denL [.bool]) := ghost cx57 S58 6000 58 [(.slice (.int .i64)), (.slice (.int .i64))] [.bool]
noncomputable def C58 : Con := ⟨[(.slice (.int .i64)), (.slice (.int .i64))], [.bool], F58⟩
noncomputable def cx58 : Ctx := cx57.add 58 C58
noncomputable abbrev T58_0 (t0 : (List Int)) (t1 : (List Int)) (t5 : Int) (f : Nat) : Option (denL [.bool]) := iter cx57 S58 [.bool] 6000 f 0 K58_0 (((t0, (t1, (t5, ()))), ()), ())
theorem U58_0 (t0 : (List Int)) (t1 : (List Int)) (t5 : Int) {y : denL [.bool]} (h : Ev fun k => seg cx57 S58 [.bool] 6000 some (iter cx57 S58 [.bool] 6000 k) 0 K58_0 (((t0, (t1, (t5, ()))), ()), ()) = some y) : Ev fun k => T58_0 t0 t1 t5 k = some y := iter_ev h
theorem N38 (t0 : Se) {y : denL [.bool]} (h : Ev fun k =>
 (Option.bind (F18 (t0, ())) fun (y : Int × Int × Int × Unit) => some (Prod.fst (Prod.snd (Prod.snd y)) == 0, ()) : Option (denL [.bool])) = some y) : F38 (t0, ()) = some y := ghost_eq (Ev.eq (fun _ => E38 _ _) h)
theorem N51 (t0 : Se) {y : denL [.bool]} (h : Ev fun k =>
 (Option.bind (F38 (t0, ())) fun (y : Bool × Unit) => bif Prod.fst y then Option.bind (F52 (t0, ())) fun (y : List (List Int) × Unit) => some (decide ((↑(List.length (Prod.fst y)) : Int) > 0), ()) else some (false, ()) : Option (denL [.bool])) = some y) : F51 (t0, ()) = some y := ghost_eq (Ev.eq (fun _ => E51 _ _) h)
theorem N45 (t0 : Sp) {y : denL [.bool]} (h : Ev fun k =>
 (Option.bind (F85 (Prod.fst t0, 0, 693, ())) fun (y : Bool × Unit) => bif Prod.fst y then Option.bind (F85 (Prod.fst (Prod.snd t0), 1, 7, ())) fun (y : Bool × Unit) => some (Prod.fst y, ()) else some (false, ()) : Option (denL [.bool])) = some y) : F45 (t0, ()) = some y := ghost_eq (Ev.eq (fun _ => E45 _ _) h)
theorem N48 (t0 : Sp) (t1 : Sp) {y : denL [.bool]} (h : Ev fun k =>
 (some (decide (IntKind.wrap IntKind.i64 (Prod.fst t0 * Prod.fst (Prod.snd t1)) < IntKind.wrap IntKind.i64 (Prod.fst t1 * Prod.fst (Prod.snd t0))), ()) : Option (denL [.bool])) = some y) : F48 (t0, (t1, ())) = some y := ghost_eq (Ev.eq (fun _ => E48 _ _ _) h)
theorem N57 (t0 : Sp) (t1 : Sp) {y : denL [.bool]} (h : Ev fun k =>
 (bif decide (Prod.fst t0 ≥ Prod.fst t1) then some (decide (Prod.fst (Prod.snd t0) ≤ Prod.fst (Prod.snd t1)), ()) else some (false, ()) : Option (denL [.bool])) = some y) : F57 (t0, (t1, ())) = some y := ghost_eq (Ev.eq (fun _ => E57 _ _ _) h)
theorem R58_0 (t0 : (List Int)) (t1 : (List Int)) (t5 : Int) {y : denL [.bool]} (h : Ev fun k =>
 (bif decide (t5 < (↑(List.length t0) : Int)) then bif decide (0 ≤ t5) && decide (t5 < (↑(List.length t0) : Int)) then Option.bind (F44 (t1, List.getD t0 (Int.toNat t5) 0, ())) fun (y : Bool × Unit) => bif !Prod.fst y then some (false, ()) else T58_0 t0 t1 (IntKind.wrap IntKind.i64 (t5 + 1)) k else none else some (true, ()) : Option (denL [.bool])) = some y) : Ev fun k => T58_0 t0 t1 t5 k = some y := U58_0 _ _ _ (Ev.eq (fun _ => Q58_0 _ _ _ _) h)
theorem N58 (t0 : (List Int)) (t1 : (List Int)) {y : denL [.bool]} (h : Ev fun k =>
 (T58_0 t0 t1 0 k : Option (denL [.bool])) = some y) : F58 (t0, (t1, ())) = some y := ghost_eq (Ev.eq (fun _ => E58 _ _ _) h)
end Go.Proofs.YtkbephbhajplhaaDoor
/- What helpers of the outright statements come to. Conditions: as each lemma states. -/
namespace Go.Proofs.YtkbephbhajplhaaDoor
open Go Go.Gh Go.Proofs Go.Few
theorem L58 (l p : List Int) (hl : l.length < 1000000) (hp : p.length < 1000000) : F58 ((l, p, ()) : List Int × List Int × Unit) = some (l.all fun x => decide (x ∈ p), ()) := by
 refine N58 _ _ ?_
 have key : ∀ (e i : Nat), i + e = l.length → Ev fun k => T58_0 l p i k = some ((l.drop i).all fun x => decide (x ∈ p), ()) := by
  intro e
  induction e with
  | zero =>
   intro i hi
   refine R58_0 _ _ _ ?_
   rw [dec_f (by omega), List.drop_eq_nil_of_le (by omega)]
   exact Ev.all fun _ => by first | rfl | trivial
  | succ e ih =>
   intro i hi
   refine R58_0 _ _ _ ?_
   have hlt : i < l.length := by omega
   rw [dec_t (show (i : Int) < (l.length : Int) by omega), dec_t (show (0 : Int) ≤ (i : Int) by omega), Int.toNat_natCast, getD_lt hlt, wrap_succ (n := i) (by omega), List.drop_eq_getElem_cons hlt, List.all_cons, L44 p _ hp]
   simp only [Bool.and_self, cond_true, Option.bind_some]
   by_cases h : l[i] ∈ p
   ·rw [dec_t h]
    exact ih (i + 1) (by omega)
   ·rw [dec_f h]
    exact Ev.all fun _ => by first | rfl | trivial
 have := key l.length 0 (by omega)
 rw [List.drop_zero] at this
 exact this
theorem L57 (a b : Sp) : F57 ((a, b, ()) : Sp × Sp × Unit) = some (decide (a.1 ≥ b.1) && decide (a.2.1 ≤ b.2.1), ()) := by
 refine N57 _ _ (Ev.all fun _ => ?_)
 cases decide (a.1 ≥ b.1) <;> rfl
theorem L38 (s : Se) : F38 ((s, ()) : Se × Unit) = some ((chkP s).2.2.1 == 0, ()) := by
 refine N38 _ ?_
 rw [L18]
 exact Ev.all fun _ => by first | rfl | trivial
theorem L51 (s : Se) : F51 ((s, ()) : Se × Unit) = some (alvB s, ()) := by
 refine N51 _ ?_
 rw [L38]
 simp only [Option.bind_some]
 unfold alvB
 by_cases h : (chkP s).2.2.1 = 0
 ·rw [L52 s (chk_zero h)]
  have e : ((chkP s).2.2.1 == 0) = true := by simpa using h
  rw [e]
  have e2 : decide (((truthsR s 0).length : Int) > 0) = decide (truthsR s 0 ≠ []) := by
   rw [decide_eq_decide]
   constructor
   ·intro h1 h2; rw [h2] at h1; simp at h1
   ·intro h1; have := List.length_pos_iff.2 h1; omega
  simp only [cond_true, Option.bind_some, Bool.true_and, e2]
  exact Ev.all fun _ => by first | rfl | trivial
 ·have : ((chkP s).2.2.1 == 0) = false := by simpa using h
  rw [this]
  exact Ev.all fun _ => by first | rfl | trivial
theorem L45 {q : Sp} (h1 : 0 ≤ q.1 ∧ q.1 ≤ 693) (h2 : 1 ≤ q.2.1 ∧ q.2.1 ≤ 7) : F45 ((q, ()) : Sp × Unit) = some (true, ()) := by
 refine N45 _ ?_
 rw [L85, L85, dec_t h1.1, dec_t h1.2, dec_t h2.1, dec_t h2.2]
 exact Ev.all fun _ => by first | rfl | trivial
theorem L48 {p q : Sp} (h1 : 0 ≤ p.1 ∧ p.1 ≤ 693) (h2 : 1 ≤ p.2.1 ∧ p.2.1 ≤ 7) (h3 : 0 ≤ q.1 ∧ q.1 ≤ 693) (h4 : 1 ≤ q.2.1 ∧ q.2.1 ≤ 7) : F48 ((p, q, ()) : Sp × Sp × Unit) = some (decide (p.1 * q.2.1 < q.1 * p.2.1), ()) := by
 refine N48 _ _ ?_
 have b : ∀ {a c : Int}, 0 ≤ a ∧ a ≤ 693 → 1 ≤ c ∧ c ≤ 7 → 0 ≤ a * c ∧ a * c ≤ 4851 := fun {a c} ha hc =>
  ⟨Int.mul_nonneg ha.1 (by omega), Int.le_trans (Int.mul_le_mul ha.2 hc.2 (by omega) (by decide)) (by decide)⟩
 have b1 := b h1 h4
 have b2 := b h3 h2
 rw [wrap_id (x := p.1 * q.2.1) (by omega) (by omega), wrap_id (x := q.1 * p.2.1) (by omega) (by omega)]
 exact Ev.all fun _ => by first | rfl | trivial
theorem low_ok {a b : Int} (ha : 0 ≤ a ∧ a ≤ 693) (hb : 1 ≤ b ∧ b ≤ 7) : (0 ≤ (lowP a b).1 ∧ (lowP a b).1 ≤ 693) ∧ (1 ≤ (lowP a b).2.1 ∧ (lowP a b).2.1 ≤ 7) ∧ (lowP a b).1 * b = a * (lowP a b).2.1 := by
 obtain ⟨n, rfl⟩ := Int.eq_ofNat_of_zero_le ha.1
 obtain ⟨m, rfl⟩ := Int.eq_ofNat_of_zero_le (show 0 ≤ b by omega)
 have hm : 0 < m := by omega
 have hg : 0 < Nat.gcd n m := Nat.gcd_pos_of_pos_right _ hm
 obtain ⟨u, hu⟩ := Nat.gcd_dvd_left n m
 obtain ⟨v, hv⟩ := Nat.gcd_dvd_right n m
 have e1 : n / Nat.gcd n m = u := Nat.div_eq_of_eq_mul_right hg hu
 have e2 : m / Nat.gcd n m = v := Nat.div_eq_of_eq_mul_right hg hv
 have l1 : (lowP (n : Int) (m : Int)).1 = (u : Int) := by
  unfold lowP; rw [Int.toNat_natCast, Int.toNat_natCast]; show (n : Int) / (Nat.gcd n m : Int) = _
  rw [← Int.natCast_ediv, e1]
 have l2 : (lowP (n : Int) (m : Int)).2.1 = (v : Int) := by
  unfold lowP; rw [Int.toNat_natCast, Int.toNat_natCast]; show (m : Int) / (Nat.gcd n m : Int) = _
  rw [← Int.natCast_ediv, e2]
 have h1 : u ≤ n := by rw [← e1]; exact Nat.div_le_self _ _
 have h2 : v ≤ m := by rw [← e2]; exact Nat.div_le_self _ _
 have h3 : 0 < v := Nat.pos_of_ne_zero fun e => by rw [e, Nat.mul_zero] at hv; omega
 rw [l1, l2]
 refine ⟨by omega, by omega, ?_⟩
 have : u * m = n * v := by
  have t1 : u * m = u * (Nat.gcd n m * v) := congrArg (u * ·) hv
  have t2 : n * v = Nat.gcd n m * u * v := congrArg (· * v) hu
  rw [t1, t2, Nat.mul_left_comm, Nat.mul_assoc]
 exact_mod_cast this
theorem low_lt {a b c d : Int} (ha : 0 ≤ a ∧ a ≤ 693) (hb : 1 ≤ b ∧ b ≤ 7) (hc : 0 ≤ c ∧ c ≤ 693) (hd : 1 ≤ d ∧ d ≤ 7) : ((lowP a b).1 * (lowP c d).2.1 < (lowP c d).1 * (lowP a b).2.1) ↔ a * d < c * b := by
 obtain ⟨h1, h2, h3⟩ := low_ok ha hb
 obtain ⟨h4, h5, h6⟩ := low_ok hc hd
 generalize (lowP a b).1 = x at *
 generalize (lowP a b).2.1 = y at *
 generalize (lowP c d).1 = z at *
 generalize (lowP c d).2.1 = w at *
 have k1 : (x * w) * (b * d) = (a * d) * (y * w) := by
  rw [show (x * w) * (b * d) = (x * b) * (w * d) by simp only [Int.mul_comm, Int.mul_left_comm], h3]; simp only [Int.mul_comm, Int.mul_left_comm]
 have k2 : (z * y) * (b * d) = (c * b) * (y * w) := by
  rw [show (z * y) * (b * d) = (z * d) * (y * b) by simp only [Int.mul_comm, Int.mul_left_comm], h6]; simp only [Int.mul_comm, Int.mul_left_comm]
 have p1 : 0 < b * d := Int.mul_pos (by omega) (by omega)
 have p2 : 0 < y * w := Int.mul_pos (by omega) (by omega)
 constructor
 ·intro h
  have := Int.mul_lt_mul_of_pos_right h p1
  rw [k1, k2] at this
  exact Int.lt_of_mul_lt_mul_right this (Int.le_of_lt p2)
 ·intro h
  have := Int.mul_lt_mul_of_pos_right h p2
  rw [← k1, ← k2] at this
  exact Int.lt_of_mul_lt_mul_right this (Int.le_of_lt p1)
end Go.Proofs.YtkbephbhajplhaaDoor
