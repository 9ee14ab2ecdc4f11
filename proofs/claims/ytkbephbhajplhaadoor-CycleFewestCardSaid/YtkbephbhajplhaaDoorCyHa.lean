/- What the ghost comes to: helpers of the outright statements. Conditions: none (equations, each by computation). -/
import Derived.Test.YtkbephbhajplhaaDoorCyV
import Derived.Test.YtkbephbhajplhaaDoorGhI
import Derived.Test.YtkbephbhajplhaaDoorCyY
namespace Go.Proofs.YtkbephbhajplhaaDoor
open Go Go.Gh Go.Proofs
def S109 : List Gh.Spec := []
noncomputable def F109 : denL [(.slice (.int .u8)), (.int .i64)] → Option (denL [(.int .i64)]) := ghost cx23 S109 6000 109 [(.slice (.int .u8)), (.int .i64)] [(.int .i64)]
noncomputable def C109 : Con := ⟨[(.slice (.int .u8)), (.int .i64)], [(.int .i64)], F109⟩
noncomputable def cx109 : Ctx := cx23.add 109 C109
def S38 : List Gh.Spec := []
abbrev GT38 : Type := (n : Nat) → Kept → denK (specAt S38 n) → Option (denL [.bool])
theorem E38 (G : GT38) (t0 : Se) : enter cx109 S38 [.bool] 6000 some G 38 [tSe] (t0, ()) =
  Option.bind (F18 (t0, ())) fun (y : Int × Int × Int × Unit) => some (Prod.fst (Prod.snd (Prod.snd y)) == 0, ()) := by kernel_rfl
noncomputable def F38 : denL [tSe] → Option (denL [.bool]) := ghost cx109 S38 6000 38 [tSe] [.bool]
noncomputable def C38 : Con := ⟨[tSe], [.bool], F38⟩
noncomputable def cx38 : Ctx := cx109.add 38 C38
def S51 : List Gh.Spec := []
abbrev GT51 : Type := (n : Nat) → Kept → denK (specAt S51 n) → Option (denL [.bool])
theorem E51 (G : GT51) (t0 : Se) : enter cx38 S51 [.bool] 6000 some G 51 [tSe] (t0, ()) =
  Option.bind (F38 (t0, ())) fun (y : Bool × Unit) => bif Prod.fst y then Option.bind (F52 (t0, ())) fun (y : List (List Int) × Unit) => some (decide ((↑(List.length (Prod.fst y)) : Int) > 0), ()) else some (false, ()) := by kernel_rfl
noncomputable def F51 : denL [tSe] → Option (denL [.bool]) := ghost cx38 S51 6000 51 [tSe] [.bool]
noncomputable def C51 : Con := ⟨[tSe], [.bool], F51⟩
noncomputable def cx51 : Ctx := cx38.add 51 C51
def S39 : List Gh.Spec := [{ key := (0, 39, 3, 1), frs := [{ fn := 39, n := 98, regs := [(1, (.dat (.slice (.int .u8)))), (2, (.dat (.slice (.int .u8)))), (3, (.ptr 390003 [])), (6, (.ptr 390006 [])), (8, (.row 390041)), (9, (.dat (.int .i64)))], round := none, defers := [] }], heap := [(390003, .box (.dat tSe) false), (390006, .box (.dat tSe) false), (390041, .row (.int .i64) false)] }, { key := (0, 39, 9, 1), frs := [{ fn := 39, n := 98, regs := [(2, (.dat (.slice (.int .u8)))), (3, (.ptr 390003 [])), (6, (.ptr 390006 [])), (8, (.row 390041)), (11, (.dat (.int .i64)))], round := none, defers := [] }], heap := [(390003, .box (.agg [(.dat (.slice tSp)), (.row 390045), (.dat tSp)]) false), (390006, .box (.dat tSe) false), (390041, .row (.int .i64) true), (390045, .row tSm false)] }]
noncomputable def F39 : denL [tSe, (.slice (.int .u8)), (.slice (.int .u8))] → Option (denL [tSe, (.slice (.int .i64))]) := ghost cx51 S39 6000 39 [tSe, (.slice (.int .u8)), (.slice (.int .u8))] [tSe, (.slice (.int .i64))]
noncomputable def C39 : Con := ⟨[tSe, (.slice (.int .u8)), (.slice (.int .u8))], [tSe, (.slice (.int .i64))], F39⟩
noncomputable def cx39 : Ctx := cx51.add 39 C39
def S43 : List Gh.Spec := []
noncomputable def F43 : denL [(.int .i64), .bool] → Option (denL [.bool]) := ghost cx39 S43 6000 43 [(.int .i64), .bool] [.bool]
noncomputable def C43 : Con := ⟨[(.int .i64), .bool], [.bool], F43⟩
noncomputable def cx43 : Ctx := cx39.add 43 C43
def S45 : List Gh.Spec := []
noncomputable def F45 : denL [tSp] → Option (denL [.bool]) := ghost cx43 S45 6000 45 [tSp] [.bool]
noncomputable def C45 : Con := ⟨[tSp], [.bool], F45⟩
noncomputable def cx45 : Ctx := cx43.add 45 C45
def S48 : List Gh.Spec := []
noncomputable def F48 : denL [tSp, tSp] → Option (denL [.bool]) := ghost cx45 S48 6000 48 [tSp, tSp] [.bool]
noncomputable def C48 : Con := ⟨[tSp, tSp], [.bool], F48⟩
noncomputable def cx48 : Ctx := cx45.add 48 C48
def S53 : List Gh.Spec := [{ key := (0, 53, 1, 1), frs := [{ fn := 53, n := 14, regs := [(0, (.dat (.int .i64))), (1, (.dat (.int .i64)))], round := none, defers := [] }], heap := [] }]
noncomputable def K53_0 : Kept := { todos := [[.inLoop (cAt Tryd.f53 [1, 0, 0, 0]), .inBlock 0, .code (cAt Tryd.f53 [1, 1])]], cs := [] }
abbrev GT53 : Type := (n : Nat) → Kept → denK (specAt S53 n) → Option (denL [.bool])
theorem E53 (G : GT53) (t0 : Int) (t1 : Int) : enter cx48 S53 [.bool] 6000 some G 53 [(.int .i64), (.int .i64)] (t0, (t1, ())) =
  G 0 K53_0 (((t0, t1, ()), ()), ()) := by kernel_rfl
theorem Q53_0 (G : GT53) (t0 : Int) (t1 : Int) : seg cx48 S53 [.bool] 6000 some G 0 K53_0 (((t0, (t1, ())), ()), ()) =
  bif decide (t1 > 0) then G 0 K53_0 (((IntKind.wrap IntKind.i64 (Int.tdiv t0 2), IntKind.wrap IntKind.i64 (t1 - 1), ()), ()), ()) else some (Int.tmod t0 2 == 1, ()) := by kernel_rfl
noncomputable def F53 : denL [(.int .i64), (.int .i64)] → Option (denL [.bool]) := ghost cx48 S53 6000 53 [(.int .i64), (.int .i64)] [.bool]
noncomputable def C53 : Con := ⟨[(.int .i64), (.int .i64)], [.bool], F53⟩
noncomputable def cx53 : Ctx := cx48.add 53 C53
def S55 : List Gh.Spec := [{ key := (0, 55, 2, 1), frs := [{ fn := 55, n := 36, regs := [(0, (.dat (.slice (.int .i64)))), (1, (.dat (.int .i64))), (5, (.dat (.int .i64)))], round := none, defers := [] }], heap := [] }]
noncomputable def K55_0 : Kept := { todos := [[.inLoop (cAt Tryd.f55 [1, 0, 1, 0, 0]), .inBlock 0, .code (cAt Tryd.f55 [1, 1])]], cs := [] }
abbrev GT55 : Type := (n : Nat) → Kept → denK (specAt S55 n) → Option (denL [.bool])
theorem E55 (G : GT55) (t0 : (List Int)) (t1 : Int) : enter cx53 S55 [.bool] 6000 some G 55 [(.slice (.int .i64)), (.int .i64)] (t0, (t1, ())) =
  G 0 K55_0 (((t0, t1, 0, ()), ()), ()) := by kernel_rfl
theorem Q55_0 (G : GT55) (t0 : (List Int)) (t1 : Int) (t5 : Int) : seg cx53 S55 [.bool] 6000 some G 0 K55_0 (((t0, (t1, (t5, ()))), ()), ()) =
  bif decide (t5 < (↑(List.length t0) : Int)) then
 bif decide (0 ≤ t5) && decide (t5 < (↑(List.length t0) : Int)) then
  Option.bind (F85 (List.getD t0 (Int.toNat t5) 0, 0, IntKind.wrap IntKind.i64 (t1 - 1), ())) fun (y : Bool × Unit) =>
   bif !Prod.fst y then some (false, ())
   else
    bif decide (t5 > 0) then
     bif decide (0 ≤ t5) && decide (t5 < (↑(List.length t0) : Int)) then
      bif decide (0 ≤ IntKind.wrap IntKind.i64 (t5 - 1)) && decide (IntKind.wrap IntKind.i64 (t5 - 1) < (↑(List.length t0) : Int)) then bif decide (List.getD t0 (Int.toNat t5) 0 ≤ List.getD t0 (Int.toNat (IntKind.wrap IntKind.i64 (t5 - 1))) 0) then some (false, ()) else G 0 K55_0 (((t0, t1, IntKind.wrap IntKind.i64 (t5 + 1), ()), ()), ()) else none
     else none
    else G 0 K55_0 (((t0, t1, IntKind.wrap IntKind.i64 (t5 + 1), ()), ()), ())
 else none
 else some (true, ()) := by kernel_rfl
noncomputable def F55 : denL [(.slice (.int .i64)), (.int .i64)] → Option (denL [.bool]) := ghost cx53 S55 6000 55 [(.slice (.int .i64)), (.int .i64)] [.bool]
noncomputable def C55 : Con := ⟨[(.slice (.int .i64)), (.int .i64)], [.bool], F55⟩
noncomputable def cx55 : Ctx := cx53.add 55 C55
def S56 : List Gh.Spec := []
abbrev GT56 : Type := (n : Nat) → Kept → denK (specAt S56 n) → Option (denL [.bool])
theorem E56 (G : GT56) (t0 : (List Int)) (t1 : (List Int)) : enter cx55 S56 [.bool] 6000 some G 56 [(.slice (.int .i64)), (.slice (.int .i64))] (t0, (t1, ())) =
  bif decide ((↑(List.length t0) : Int) < (↑(List.length t1) : Int)) then some (true, ()) else bif (↑(List.length t0) : Int) == (↑(List.length t1) : Int) then Option.bind (F113 (t0, t1, ())) fun (y : Bool × Unit) => some (Prod.fst y, ()) else some (false, ()) := by kernel_rfl
noncomputable def F56 : denL [(.slice (.int .i64)), (.slice (.int .i64))] → Option (denL [.bool]) := ghost cx55 S56 6000 56 [(.slice (.int .i64)), (.slice (.int .i64))] [.bool]
noncomputable def C56 : Con := ⟨[(.slice (.int .i64)), (.slice (.int .i64))], [.bool], F56⟩
noncomputable def cx56 : Ctx := cx55.add 56 C56
def S57 : List Gh.Spec := []
noncomputable def F57 : denL [tSp, tSp] → Option (denL [.bool]) := ghost cx56 S57 6000 57 [tSp, tSp] [.bool]
noncomputable def C57 : Con := ⟨[tSp, tSp], [.bool], F57⟩
noncomputable def cx57 : Ctx := cx56.add 57 C57
def S58 : List Gh.Spec := [{ key := (0, 58, 2, 1), frs := [{ fn := 58, n := 19, regs := [(0, (.dat (.slice (.int .i64)))), (1, (.dat (.slice (.int .i64)))), (5, (.dat (.int .i64)))], round := none, defers := [] }], heap := [] }]
noncomputable def F58 : denL [(.slice (.int .i64)), (.slice (.int .i64))] → Option (denL [.bool]) := ghost cx57 S58 6000 58 [(.slice (.int .i64)), (.slice (.int .i64))] [.bool]
noncomputable def C58 : Con := ⟨[(.slice (.int .i64)), (.slice (.int .i64))], [.bool], F58⟩
noncomputable def cx58 : Ctx := cx57.add 58 C58
noncomputable abbrev T53_0 (t0 : Int) (t1 : Int) (f : Nat) : Option (denL [.bool]) := iter cx48 S53 [.bool] 6000 f 0 K53_0 (((t0, (t1, ())), ()), ())
theorem U53_0 (t0 : Int) (t1 : Int) {y : denL [.bool]} (h : Ev fun k => seg cx48 S53 [.bool] 6000 some (iter cx48 S53 [.bool] 6000 k) 0 K53_0 (((t0, (t1, ())), ()), ()) = some y) : Ev fun k => T53_0 t0 t1 k = some y := iter_ev h
noncomputable abbrev T55_0 (t0 : (List Int)) (t1 : Int) (t5 : Int) (f : Nat) : Option (denL [.bool]) := iter cx53 S55 [.bool] 6000 f 0 K55_0 (((t0, (t1, (t5, ()))), ()), ())
theorem U55_0 (t0 : (List Int)) (t1 : Int) (t5 : Int) {y : denL [.bool]} (h : Ev fun k => seg cx53 S55 [.bool] 6000 some (iter cx53 S55 [.bool] 6000 k) 0 K55_0 (((t0, (t1, (t5, ()))), ()), ()) = some y) : Ev fun k => T55_0 t0 t1 t5 k = some y := iter_ev h
theorem N38 (t0 : Se) {y : denL [.bool]} (h : Ev fun k =>
 (Option.bind (F18 (t0, ())) fun (y : Int × Int × Int × Unit) => some (Prod.fst (Prod.snd (Prod.snd y)) == 0, ()) : Option (denL [.bool])) = some y) : F38 (t0, ()) = some y := ghost_eq (Ev.eq (fun _ => E38 _ _) h)
theorem N51 (t0 : Se) {y : denL [.bool]} (h : Ev fun k =>
 (Option.bind (F38 (t0, ())) fun (y : Bool × Unit) => bif Prod.fst y then Option.bind (F52 (t0, ())) fun (y : List (List Int) × Unit) => some (decide ((↑(List.length (Prod.fst y)) : Int) > 0), ()) else some (false, ()) : Option (denL [.bool])) = some y) : F51 (t0, ()) = some y := ghost_eq (Ev.eq (fun _ => E51 _ _) h)
theorem R53_0 (t0 : Int) (t1 : Int) {y : denL [.bool]} (h : Ev fun k =>
 (bif decide (t1 > 0) then T53_0 (IntKind.wrap IntKind.i64 (Int.tdiv t0 2)) (IntKind.wrap IntKind.i64 (t1 - 1)) k else some (Int.tmod t0 2 == 1, ()) : Option (denL [.bool])) = some y) : Ev fun k => T53_0 t0 t1 k = some y := U53_0 _ _ (Ev.eq (fun _ => Q53_0 _ _ _) h)
theorem N53 (t0 : Int) (t1 : Int) {y : denL [.bool]} (h : Ev fun k =>
 (T53_0 t0 t1 k : Option (denL [.bool])) = some y) : F53 (t0, (t1, ())) = some y := ghost_eq (Ev.eq (fun _ => E53 _ _ _) h)
theorem R55_0 (t0 : (List Int)) (t1 : Int) (t5 : Int) {y : denL [.bool]} (h : Ev fun k =>
 (bif decide (t5 < (↑(List.length t0) : Int)) then
 bif decide (0 ≤ t5) && decide (t5 < (↑(List.length t0) : Int)) then
   Option.bind (F85 (List.getD t0 (Int.toNat t5) 0, 0, IntKind.wrap IntKind.i64 (t1 - 1), ())) fun (y : Bool × Unit) =>
    bif !Prod.fst y then some (false, ())
    else
     bif decide (t5 > 0) then
      bif decide (0 ≤ t5) && decide (t5 < (↑(List.length t0) : Int)) then
       bif decide (0 ≤ IntKind.wrap IntKind.i64 (t5 - 1)) && decide (IntKind.wrap IntKind.i64 (t5 - 1) < (↑(List.length t0) : Int)) then bif decide (List.getD t0 (Int.toNat t5) 0 ≤ List.getD t0 (Int.toNat (IntKind.wrap IntKind.i64 (t5 - 1))) 0) then some (false, ()) else T55_0 t0 t1 (IntKind.wrap IntKind.i64 (t5 + 1)) k else none
      else none
     else T55_0 t0 t1 (IntKind.wrap IntKind.i64 (t5 + 1)) k
 else none
 else some (true, ()) : Option (denL [.bool])) = some y) : Ev fun k => T55_0 t0 t1 t5 k = some y := U55_0 _ _ _ (Ev.eq (fun _ => Q55_0 _ _ _ _) h)
theorem N55 (t0 : (List Int)) (t1 : Int) {y : denL [.bool]} (h : Ev fun k =>
 (T55_0 t0 t1 0 k : Option (denL [.bool])) = some y) : F55 (t0, (t1, ())) = some y := ghost_eq (Ev.eq (fun _ => E55 _ _ _) h)
theorem N56 (t0 : (List Int)) (t1 : (List Int)) {y : denL [.bool]} (h : Ev fun k =>
 (bif decide ((↑(List.length t0) : Int) < (↑(List.length t1) : Int)) then some (true, ()) else bif (↑(List.length t0) : Int) == (↑(List.length t1) : Int) then Option.bind (F113 (t0, t1, ())) fun (y : Bool × Unit) => some (Prod.fst y, ()) else some (false, ()) : Option (denL [.bool])) = some y) : F56 (t0, (t1, ())) = some y := ghost_eq (Ev.eq (fun _ => E56 _ _ _) h)
end Go.Proofs.YtkbephbhajplhaaDoor
/- What helpers of the outright statements come to. Conditions: as each lemma states. -/
namespace Go.Proofs.YtkbephbhajplhaaDoor
open Go Go.Gh Go.Proofs Go.Few
theorem L53 (b : Nat) (hb : b < 1000000000000) (i : Nat) (hi : i < 1000000000000) : F53 (((b : Int), (i : Int), ()) : Int × Int × Unit) = some (b.testBit i, ()) := by
 refine N53 _ _ ?_
 have key : ∀ (i b : Nat), b < 1000000000000 → i < 1000000000000 → Ev fun k => T53_0 b i k = some (b.testBit i, ()) := by
  intro i
  induction i with
  | zero =>
   intro b hb _
   refine R53_0 _ _ ?_
   rw [dec_f (by omega)]
   have : (Int.tmod (b : Int) 2 == 1) = b.testBit 0 := by
    rw [Int.tmod_eq_emod_of_nonneg (by omega), Nat.testBit_zero, Bool.eq_iff_iff, beq_iff_eq, decide_eq_true_eq]
    omega
   rw [this]
   exact Ev.all fun _ => by first | rfl | trivial
  | succ i ih =>
   intro b hb hi
   refine R53_0 _ _ ?_
   have e1 : IntKind.wrap IntKind.i64 (Int.tdiv (b : Int) 2) = ((b / 2 : Nat) : Int) := by
    rw [show Int.tdiv (b : Int) 2 = ((b / 2 : Nat) : Int) by simp, wrap_id (by omega) (by omega)]
   have e2 : IntKind.wrap IntKind.i64 (((i + 1 : Nat) : Int) - 1) = (i : Int) := by rw [wrap_id (by omega) (by omega)]; omega
   rw [dec_t (show ((i + 1 : Nat) : Int) > 0 by omega), e1, e2, Nat.testBit_succ]
   exact ih (b / 2) (by omega) (by omega)
 exact key i b hb hi
theorem L113 (l p : List Int) (hl : l.length < 1000000000000) (hlp : l.length = p.length) : ∃ b : Bool, F113 ((l, p, ()) : List Int × List Int × Unit) = some (b, ()) ∧ (b = true ↔ lex l p) := by
 have key : ∀ (e i : Nat), i + e = l.length → ∃ b : Bool, (Ev fun k => iter cx32 S113 [.bool] 6000 k 0 K113_0 (((l, (p, ((i : Int), ()))), ()), ()) = some (b, ())) ∧ (b = true ↔ lex (l.drop i) (p.drop i)) := by
  intro e
  induction e with
  | zero =>
   intro i hi
   refine ⟨false, iter_ev (Ev.eq (fun _ => Q113_0 _ _ _ _) ?_), ?_⟩
   ·rw [dec_f (by omega), dec_f (show ¬ ((l.length : Int) < (p.length : Int)) by omega)]
    exact Ev.all fun _ => by first | rfl | trivial
   ·rw [List.drop_eq_nil_of_le (by omega)]
    exact ⟨fun h => (by cases h), fun h => by simp [lex] at h⟩
  | succ e ih =>
   intro i hi
   obtain ⟨b, h1, h2⟩ := ih (i + 1) (by omega)
   have hlt : i < l.length := by omega
   have hlt' : i < p.length := by omega
   rw [List.drop_eq_getElem_cons hlt, List.drop_eq_getElem_cons hlt']
   simp only [lex]
   by_cases h : l[i] = p[i]
   ·refine ⟨b, iter_ev (Ev.eq (fun _ => Q113_0 _ _ _ _) ?_), ?_⟩
    ·have e1 : (l[i] != p[i]) = false := by simp [h]
     rw [Int.toNat_natCast, getD_lt hlt, getD_lt hlt', e1, wrap_succ (n := i) (by omega), dec_t (show (i : Int) < (l.length : Int) by omega), dec_t (show (i : Int) < (p.length : Int) by omega), dec_t (show (0 : Int) ≤ (i : Int) by omega)]
     exact h1
    ·rw [h2]
     exact ⟨fun h3 => .inr ⟨h, h3⟩, fun h3 => by
      rcases h3 with h3 | ⟨_, h3⟩
      ·omega
      ·exact h3⟩
   ·refine ⟨decide (l[i] < p[i]), iter_ev (Ev.eq (fun _ => Q113_0 _ _ _ _) ?_), ?_⟩
    ·have e1 : (l[i] != p[i]) = true := by simpa using h
     rw [Int.toNat_natCast, getD_lt hlt, getD_lt hlt', e1, dec_t (show (i : Int) < (l.length : Int) by omega), dec_t (show (i : Int) < (p.length : Int) by omega), dec_t (show (0 : Int) ≤ (i : Int) by omega)]
     exact Ev.all fun _ => by first | rfl | trivial
    ·rw [decide_eq_true_eq]
     exact ⟨fun h3 => .inl h3, fun h3 => by
      rcases h3 with h3 | ⟨h3, _⟩
      ·exact h3
      ·exact absurd h3 h⟩
 obtain ⟨b, h1, h2⟩ := key l.length 0 (by omega)
 rw [List.drop_zero, List.drop_zero] at h2
 exact ⟨b, ghost_eq (Ev.eq (fun _ => E113 _ _ _) h1), h2⟩
theorem L56 (l p : List Int) (hl : l.length < 1000000000000) : ∃ b : Bool, F56 ((l, p, ()) : List Int × List Int × Unit) = some (b, ()) ∧ (b = true ↔ fewer l p) := by
 by_cases h1 : l.length < p.length
 ·refine ⟨true, N56 _ _ ?_, ⟨fun _ => .inl h1, fun _ => rfl⟩⟩
  rw [dec_t (show (l.length : Int) < (p.length : Int) by omega)]
  exact Ev.all fun _ => by first | rfl | trivial
 ·by_cases h2 : l.length = p.length
  ·obtain ⟨b, h3, h4⟩ := L113 l p hl h2
   refine ⟨b, N56 _ _ ?_, ?_⟩
   ·have e1 : ((l.length : Int) == (p.length : Int)) = true := beq_iff_eq.2 (by rw [h2])
    rw [dec_f (show ¬ ((l.length : Int) < (p.length : Int)) by omega), e1, h3]
    exact Ev.all fun _ => by first | rfl | trivial
   ·rw [h4]
    exact ⟨fun h => .inr ⟨h2, h⟩, fun h => by
     rcases h with h | ⟨_, h⟩
     ·omega
     ·exact h⟩
  ·refine ⟨false, N56 _ _ ?_, ⟨fun h => (by cases h), fun h => ?_⟩⟩
   ·have e1 : ((l.length : Int) == (p.length : Int)) = false := by simp; omega
    rw [dec_f (show ¬ ((l.length : Int) < (p.length : Int)) by omega), e1]
    exact Ev.all fun _ => by first | rfl | trivial
   ·rcases h with h | ⟨h, _⟩ <;> omega
theorem L55 (l : List Int) (n : Nat) (hn : n < 1000000000000) (hl : l.length < 1000000000000) (hp : l.Pairwise (· < ·)) (hin : ∀ x ∈ l, 0 ≤ x ∧ x < n) : F55 ((l, (n : Int), ()) : List Int × Int × Unit) = some (true, ()) := by
 refine N55 _ _ ?_
 have key : ∀ (e i : Nat), i + e = l.length → Ev fun k => T55_0 l n i k = some (true, ()) := by
  intro e
  induction e with
  | zero =>
   intro i hi
   refine R55_0 _ _ _ ?_
   rw [dec_f (by omega)]
   exact Ev.all fun _ => by first | rfl | trivial
  | succ e ih =>
   intro i hi
   refine R55_0 _ _ _ ?_
   have hlt : i < l.length := by omega
   have hx := hin _ (List.getElem_mem hlt)
   rw [wrap_succ (n := i) (by omega), wrap_id (x := (n : Int) - 1) (by omega) (by omega), Int.toNat_natCast, getD_lt hlt, L85]
   simp only [Option.bind_some]
   rw [dec_t (show (i : Int) < (l.length : Int) by omega), dec_t (show (0 : Int) ≤ (i : Int) by omega), dec_t hx.1, dec_t (show l[i] ≤ (n : Int) - 1 by omega)]
   simp only [Bool.and_self, cond_true, Bool.not_true, cond_false]
   cases i with
   | zero => exact ih 1 (by omega)
   | succ i =>
    have w1 : IntKind.wrap IntKind.i64 (((i + 1 : Nat) : Int) - 1) = (i : Int) := by rw [wrap_id (by omega) (by omega)]; omega
    have := List.pairwise_iff_getElem.1 hp i (i + 1) (by omega) hlt (by omega)
    rw [w1, Int.toNat_natCast, getD_lt (show i < l.length by omega), dec_t (show ((i + 1 : Nat) : Int) > 0 by omega), dec_t (show (0 : Int) ≤ (i : Int) by omega), dec_t (show (i : Int) < (l.length : Int) by omega), dec_f (show ¬ (l[i + 1] ≤ l[i]) by omega)]
    exact ih (i + 2) (by omega)
 exact key l.length 0 (by omega)
theorem L38 (s : Se) : F38 ((s, ()) : Se × Unit) = some ((chkP s).2.2.1 == 0, ()) := by
 refine N38 _ ?_
 rw [L18]
 exact Ev.all fun _ => by first | rfl | trivial
theorem L51 (s : Se) : F51 ((s, ()) : Se × Unit) = some (alvB s, ()) := by
 refine N51 _ ?_
 rw [L38]
 simp only [Option.bind_some]
 unfold alvB
 by_cases h : (chkP s).2.2.1 = 0
 ·rw [L52 s (chk_zero h)]
  have e : ((chkP s).2.2.1 == 0) = true := by simpa using h
  rw [e]
  have e2 : decide (((truthsR s 0).length : Int) > 0) = decide (truthsR s 0 ≠ []) := by
   rw [decide_eq_decide]
   constructor
   ·intro h1 h2; rw [h2] at h1; simp at h1
   ·intro h1; have := List.length_pos_iff.2 h1; omega
  simp only [cond_true, Option.bind_some, Bool.true_and, e2]
  exact Ev.all fun _ => by first | rfl | trivial
 ·have : ((chkP s).2.2.1 == 0) = false := by simpa using h
  rw [this]
  exact Ev.all fun _ => by first | rfl | trivial
end Go.Proofs.YtkbephbhajplhaaDoor
