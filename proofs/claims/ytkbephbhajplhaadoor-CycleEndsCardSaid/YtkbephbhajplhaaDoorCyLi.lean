/- What the ghost comes to: the statement 9. Conditions: none (equations, each by computation). -/
import Derived.Test.YtkbephbhajplhaaDoorCyHa
import Derived.Test.YtkbephbhajplhaaDoorCyAw
namespace Go.Proofs.YtkbephbhajplhaaDoor
open Go Go.Gh Go.Proofs
def S9 : List Gh.Spec := [{ key := (0, 9, 9, 1), frs := [{ fn := 9, n := 101, regs := [(2, (.dat (.int .u16))), (9, (.dat (.int .i64))), (10, (.ptr 90010 [])), (11, (.dat (.int .i64))), (12, (.dat (.slice (.slice (.int .i64))))), (13, (.dat .bool)), (14, (.dat .bool)), (15, (.dat (.int .i64)))], round := none, defers := [] }], heap := [(90010, .box (.dat tSp) false)] }]
noncomputable def K9_0 : Kept := { todos := [[.inLoop (cAt Tryd.f9 [1, 1, 1, 1, 1, 1, 0, 1, 0, 0]), .inBlock 0, .code (cAt Tryd.f9 [1, 1, 1, 1, 1, 1, 1])]], cs := [noCodes] }
abbrev GT9 : Type := (n : Nat) → Kept → denK (specAt S9 n) → Option (denL [.bool])
theorem E9 (G : GT9) (t0 : Se) (t1 : Int) (t2 : Int) : enter cx58 S9 [.bool] 6000 some G 9 [tSe, (.int .u8), (.int .u16)] (t0, (t1, (t2, ()))) =
  Option.bind (F51 (t0, ())) fun (y : Bool × Unit) =>
 bif !Prod.fst y then Option.bind (F19 (t0, 0, ())) fun (y : Sp × Int × Unit) => bif Prod.fst (Prod.snd y) != 0 then Option.bind (F23 ()) fun (y : Bool × Unit) => some (Prod.fst y, ()) else some (false, ())
 else
  bif decide ((↑(List.length (Prod.fst t0)) : Int) = 0) then none
  else Option.bind (F19 (t0, Int.tmod (IntKind.wrap IntKind.i64 t1) (↑(List.length (Prod.fst t0)) : Int), ())) fun (y : Sp × Int × Unit) => Option.bind (F52 (t0, ())) fun (y_1 : List (List Int) × Unit) => G 0 K9_0 (((t2, Int.tmod (IntKind.wrap IntKind.i64 t1) (↑(List.length (Prod.fst t0)) : Int), (), Prod.fst (Prod.snd y), Prod.fst y_1, false, false, 0, ()), ()), Prod.fst y, ()) := by kernel_rfl
theorem Q9_0 (G : GT9) (t2 : Int) (t9 : Int) (t11 : Int) (t12 : (List (List Int))) (t13 : Bool) (t14 : Bool) (t15 : Int) (h0 : Sp) : seg cx58 S9 [.bool] 6000 some G 0 K9_0 (((t2, (t9, ((), (t11, (t12, (t13, (t14, (t15, ())))))))), ()), (h0, ())) =
  bif decide (t15 < (↑(List.length t12) : Int)) then
 bif t13 then
  bif t14 then G 0 K9_0 (((t2, t9, (), t11, t12, true, true, IntKind.wrap IntKind.i64 (t15 + 1), ()), ()), h0, ())
  else bif decide (0 ≤ t15) && decide (t15 < (↑(List.length t12) : Int)) then bif decide (0 ≤ t9) && decide (t9 < (↑(List.length (List.getD t12 (Int.toNat t15) [])) : Int)) then G 0 K9_0 (((t2, t9, (), t11, t12, true, List.getD (List.getD t12 (Int.toNat t15) []) (Int.toNat t9) 0 == Prod.fst (Prod.snd h0), IntKind.wrap IntKind.i64 (t15 + 1), ()), ()), h0, ()) else none else none
 else
  bif decide (0 ≤ t15) && decide (t15 < (↑(List.length t12) : Int)) then
   bif decide (0 ≤ t9) && decide (t9 < (↑(List.length (List.getD t12 (Int.toNat t15) [])) : Int)) then
    bif t14 then G 0 K9_0 (((t2, t9, (), t11, t12, List.getD (List.getD t12 (Int.toNat t15) []) (Int.toNat t9) 0 == Prod.fst h0, true, IntKind.wrap IntKind.i64 (t15 + 1), ()), ()), h0, ())
    else
     bif decide (0 ≤ t15) && decide (t15 < (↑(List.length t12) : Int)) then
      bif decide (0 ≤ t9) && decide (t9 < (↑(List.length (List.getD t12 (Int.toNat t15) [])) : Int)) then G 0 K9_0 (((t2, t9, (), t11, t12, List.getD (List.getD t12 (Int.toNat t15) []) (Int.toNat t9) 0 == Prod.fst h0, List.getD (List.getD t12 (Int.toNat t15) []) (Int.toNat t9) 0 == Prod.fst (Prod.snd h0), IntKind.wrap IntKind.i64 (t15 + 1), ()), ()), h0, ()) else none
     else none
   else none
  else none
 else
 bif t11 == 0 then
  bif t13 then
   bif t14 then
    bif decide ((↑(List.length t12) : Int) = 0) then none
    else
     bif decide (0 ≤ Int.tmod (IntKind.wrap IntKind.i64 t2) (↑(List.length t12) : Int)) && decide (Int.tmod (IntKind.wrap IntKind.i64 t2) (↑(List.length t12) : Int) < (↑(List.length t12) : Int)) then
      bif decide (0 ≤ t9) && decide (t9 < (↑(List.length (List.getD t12 (Int.toNat (Int.tmod (IntKind.wrap IntKind.i64 t2) (↑(List.length t12) : Int))) [])) : Int)) then
       Option.bind (F42 (List.getD (List.getD t12 (Int.toNat (Int.tmod (IntKind.wrap IntKind.i64 t2) (↑(List.length t12) : Int))) []) (Int.toNat t9) 0, h0, ())) fun (y : Bool × Unit) => bif Prod.fst y then Option.bind (F23 ()) fun (y : Bool × Unit) => some (Prod.fst y, ()) else some (false, ())
      else none
     else none
   else some (false, ())
  else some (false, ())
 else some (false, ()) := by kernel_rfl
noncomputable def F9 : denL [tSe, (.int .u8), (.int .u16)] → Option (denL [.bool]) := ghost cx58 S9 6000 9 [tSe, (.int .u8), (.int .u16)] [.bool]
noncomputable abbrev T9_0 (t2 : Int) (t9 : Int) (t11 : Int) (t12 : (List (List Int))) (t13 : Bool) (t14 : Bool) (t15 : Int) (h0 : Sp) (f : Nat) : Option (denL [.bool]) := iter cx58 S9 [.bool] 6000 f 0 K9_0 (((t2, (t9, ((), (t11, (t12, (t13, (t14, (t15, ())))))))), ()), (h0, ()))
theorem U9_0 (t2 : Int) (t9 : Int) (t11 : Int) (t12 : (List (List Int))) (t13 : Bool) (t14 : Bool) (t15 : Int) (h0 : Sp) {y : denL [.bool]} (h : Ev fun k => seg cx58 S9 [.bool] 6000 some (iter cx58 S9 [.bool] 6000 k) 0 K9_0 (((t2, (t9, ((), (t11, (t12, (t13, (t14, (t15, ())))))))), ()), (h0, ())) = some y) : Ev fun k => T9_0 t2 t9 t11 t12 t13 t14 t15 h0 k = some y := iter_ev h
theorem R9_0 (t2 : Int) (t9 : Int) (t11 : Int) (t12 : (List (List Int))) (t13 : Bool) (t14 : Bool) (t15 : Int) (h0 : Sp) {y : denL [.bool]} (h : Ev fun k =>
 (bif decide (t15 < (↑(List.length t12) : Int)) then
 bif t13 then
   bif t14 then T9_0 t2 t9 t11 t12 true true (IntKind.wrap IntKind.i64 (t15 + 1)) h0 k
   else bif decide (0 ≤ t15) && decide (t15 < (↑(List.length t12) : Int)) then bif decide (0 ≤ t9) && decide (t9 < (↑(List.length (List.getD t12 (Int.toNat t15) [])) : Int)) then T9_0 t2 t9 t11 t12 true (List.getD (List.getD t12 (Int.toNat t15) []) (Int.toNat t9) 0 == Prod.fst (Prod.snd h0)) (IntKind.wrap IntKind.i64 (t15 + 1)) h0 k else none else none
 else
   bif decide (0 ≤ t15) && decide (t15 < (↑(List.length t12) : Int)) then
    bif decide (0 ≤ t9) && decide (t9 < (↑(List.length (List.getD t12 (Int.toNat t15) [])) : Int)) then
     bif t14 then T9_0 t2 t9 t11 t12 (List.getD (List.getD t12 (Int.toNat t15) []) (Int.toNat t9) 0 == Prod.fst h0) true (IntKind.wrap IntKind.i64 (t15 + 1)) h0 k
     else
      bif decide (0 ≤ t15) && decide (t15 < (↑(List.length t12) : Int)) then
       bif decide (0 ≤ t9) && decide (t9 < (↑(List.length (List.getD t12 (Int.toNat t15) [])) : Int)) then T9_0 t2 t9 t11 t12 (List.getD (List.getD t12 (Int.toNat t15) []) (Int.toNat t9) 0 == Prod.fst h0) (List.getD (List.getD t12 (Int.toNat t15) []) (Int.toNat t9) 0 == Prod.fst (Prod.snd h0)) (IntKind.wrap IntKind.i64 (t15 + 1)) h0 k else none
      else none
    else none
   else none
 else
 bif t11 == 0 then
   bif t13 then
    bif t14 then
     bif decide ((↑(List.length t12) : Int) = 0) then none
     else
      bif decide (0 ≤ Int.tmod (IntKind.wrap IntKind.i64 t2) (↑(List.length t12) : Int)) && decide (Int.tmod (IntKind.wrap IntKind.i64 t2) (↑(List.length t12) : Int) < (↑(List.length t12) : Int)) then
       bif decide (0 ≤ t9) && decide (t9 < (↑(List.length (List.getD t12 (Int.toNat (Int.tmod (IntKind.wrap IntKind.i64 t2) (↑(List.length t12) : Int))) [])) : Int)) then
        Option.bind (F42 (List.getD (List.getD t12 (Int.toNat (Int.tmod (IntKind.wrap IntKind.i64 t2) (↑(List.length t12) : Int))) []) (Int.toNat t9) 0, h0, ())) fun (y : Bool × Unit) => bif Prod.fst y then Option.bind (F23 ()) fun (y : Bool × Unit) => some (Prod.fst y, ()) else some (false, ())
       else none
      else none
    else some (false, ())
   else some (false, ())
 else some (false, ()) : Option (denL [.bool])) = some y) : Ev fun k => T9_0 t2 t9 t11 t12 t13 t14 t15 h0 k = some y := U9_0 _ _ _ _ _ _ _ _ (Ev.eq (fun _ => Q9_0 _ _ _ _ _ _ _ _ _) h)
theorem N9 (t0 : Se) (t1 : Int) (t2 : Int) {y : denL [.bool]} (h : Ev fun k =>
 (Option.bind (F51 (t0, ())) fun (y : Bool × Unit) =>
 bif !Prod.fst y then Option.bind (F19 (t0, 0, ())) fun (y : Sp × Int × Unit) => bif Prod.fst (Prod.snd y) != 0 then Option.bind (F23 ()) fun (y : Bool × Unit) => some (Prod.fst y, ()) else some (false, ())
 else
   bif decide ((↑(List.length (Prod.fst t0)) : Int) = 0) then none
   else Option.bind (F19 (t0, Int.tmod (IntKind.wrap IntKind.i64 t1) (↑(List.length (Prod.fst t0)) : Int), ())) fun (y : Sp × Int × Unit) => Option.bind (F52 (t0, ())) fun (y_1 : List (List Int) × Unit) => T9_0 t2 (Int.tmod (IntKind.wrap IntKind.i64 t1) (↑(List.length (Prod.fst t0)) : Int)) (Prod.fst (Prod.snd y)) (Prod.fst y_1) false false 0 (Prod.fst y) k : Option (denL [.bool])) = some y) : F9 (t0, (t1, (t2, ()))) = some y := ghost_eq (Ev.eq (fun _ => E9 _ _ _ _) h)
end Go.Proofs.YtkbephbhajplhaaDoor
/- CycleEnds: each end of Number is that of some truth, and no truth has a number that is beyond. Conditions: none. -/
namespace Go.Proofs.YtkbephbhajplhaaDoor
open Go Go.Gh Go.Proofs
theorem L9 (s : Se) (year x : Int) (hy : 0 ≤ year ∧ year ≤ 255) (hx : 0 ≤ x ∧ x ≤ 65535) : F9 ((s, year, x, ()) : Se × Int × Int × Unit) = some (true, ()) := by
 obtain ⟨u, rfl⟩ := Int.eq_ofNat_of_zero_le hy.1
 obtain ⟨v, rfl⟩ := Int.eq_ofNat_of_zero_le hx.1
 refine N9 _ _ _ ?_
 rw [L51]
 simp only [Option.bind_some]
 cases ha : alvB s with
 | false =>
  have he := alvB_not ha 0 [0]
  have e1 : (numberP s 0).2.1 = errP s 0 [0] := by unfold numberP; rw [if_neg he]
  rw [L19, L23]
  simp only [Bool.not_false, cond_true, Option.bind_some]
  rw [e1, show (errP s 0 [0] != 0) = true from bne_iff_ne.2 he]
  exact Ev.all fun _ => by first | rfl | trivial
 | true =>
  have h := alvB_iff.1 ha
  have h7 := h.ok.hi
  have h3 := h.ok.lo
  have hlen := truthsR_len h.ok 0
  have tm : ∀ p q : Nat, Int.tmod (p : Int) (q : Int) = ((p % q : Nat) : Int) := fun p q => by rw [Int.tmod_eq_emod_of_nonneg (by omega)]; simp
  have eu : Int.tmod (IntKind.wrap IntKind.i64 (u : Int)) (s.1.length : Int) = ((u % s.1.length : Nat) : Int) := by rw [wrap_id (by omega) (by omega)]; exact tm _ _
  have hn : u % s.1.length < s.1.length := Nat.mod_lt _ (by omega)
  rw [eu, dec_f (show ¬ ((s.1.length : Int) = 0) by omega)]
  generalize u % s.1.length = n at *
  rw [L19, L19, h.number hn, L52 s h.ok]
  simp only [Bool.not_true, cond_false, Option.bind_some]
  obtain ⟨⟨t1, m1, e1⟩, ⟨t2, m2, e2⟩, all, _⟩ := h.one hn
  have hwf : ∀ t ∈ truthsR s 0, t.length = s.1.length := fun t ht => (h.wf ht).1
  have hne := h.some
  generalize truthsR s 0 = A at *
  generalize numsP s n n = X at *
  have key : ∀ (c i : Nat) (p q : Bool), i + c = A.length → (p = true ∨ ∃ t ∈ A.drop i, t.getD n 0 = X.1) → (q = true ∨ ∃ t ∈ A.drop i, t.getD n 0 = X.2.1) → Ev fun k => T9_0 (v : Int) (n : Int) 0 A p q (i : Int) X k = some (true, ()) := by
   intro c
   induction c with
   | zero =>
    intro i p q hi hp hq
    rw [List.drop_eq_nil_of_le (by omega)] at hp hq
    obtain rfl : p = true := hp.resolve_right (by simp)
    obtain rfl : q = true := hq.resolve_right (by simp)
    have hl : 0 < A.length := List.length_pos_iff.2 hne
    have ex : Int.tmod (IntKind.wrap IntKind.i64 (v : Int)) (A.length : Int) = ((v % A.length : Nat) : Int) := by rw [wrap_id (by omega) (by omega)]; exact tm _ _
    have hm : v % A.length < A.length := Nat.mod_lt _ (by omega)
    refine R9_0 _ _ _ _ _ _ _ _ ?_
    rw [ex]
    generalize v % A.length = m at *
    have b := all _ (List.getElem_mem hm)
    have hw := hwf _ (List.getElem_mem hm)
    have hg : inGap X (A[m].getD n 0) = true := by unfold inGap; rw [dec_t b.1, dec_t b.2]; rfl
    rw [dec_f (show ¬ (i : Int) < (A.length : Int) by omega)]
    simp only [cond_false]
    rw [dec_f (show ¬ ((A.length : Int) = 0) by omega), dec_t (show (0 : Int) ≤ (m : Int) by omega), dec_t (show (m : Int) < (A.length : Int) by omega), Int.toNat_natCast, getD_lt hm, dec_t (show (0 : Int) ≤ (n : Int) by omega), dec_t (show (n : Int) < (A[m].length : Int) by omega), Int.toNat_natCast, L42, hg, L23]
    exact Ev.all fun _ => by first | rfl | trivial
   | succ c ih =>
    intro i p q hi hp hq
    have hlt : i < A.length := by omega
    have hw := hwf _ (List.getElem_mem hlt)
    rw [List.drop_eq_getElem_cons hlt] at hp hq
    have step : ∀ {p : Bool} {w : Int}, (p = true ∨ ∃ t ∈ A[i] :: A.drop (i + 1), t.getD n 0 = w) → ((p || (A[i].getD n 0 == w)) = true ∨ ∃ t ∈ A.drop (i + 1), t.getD n 0 = w) := fun {p w} hp => by
     rcases hp with rfl | ⟨t, ht, e⟩
     ·exact .inl rfl
     ·rcases List.mem_cons.1 ht with rfl | ht
      ·left; rw [Bool.or_eq_true, beq_iff_eq]; exact .inr e
      ·exact .inr ⟨t, ht, e⟩
    have ih := ih (i + 1) _ _ (by omega) (step hp) (step hq)
    refine R9_0 _ _ _ _ _ _ _ _ ?_
    rw [dec_t (show (i : Int) < (A.length : Int) by omega), dec_t (show (0 : Int) ≤ (i : Int) by omega), Int.toNat_natCast, getD_lt hlt, dec_t (show (0 : Int) ≤ (n : Int) by omega), dec_t (show (n : Int) < (A[i].length : Int) by omega), Int.toNat_natCast, wrap_succ (n := i) (by omega)]
    simp only [Bool.and_self, cond_true]
    cases p <;> cases q <;> exact ih
  exact key A.length 0 false false (by omega) (.inr ⟨t1, by simpa using m1, e1⟩) (.inr ⟨t2, by simpa using m2, e2⟩)
end Go.Proofs.YtkbephbhajplhaaDoor
