/- What the ghost comes to: law 10. Conditions: none (equations, each by computation). -/
import Derived.Test.YtkhhbpocmmmnmaaTuH
import Derived.Test.YtkhhbpocmmmnmaaTuL17
namespace Go.Proofs.Ytkhhbpocmmmnmaa
open Go Go.Gh Go.Proofs
def S10 : List Gh.Spec := []
noncomputable def F10 : denL [tSu, (.arr 3 (.int .u8))] → Option (denL [.bool]) := ghost cx41 S10 6000 10 [tSu, (.arr 3 (.int .u8))] [.bool]
theorem N10 (t0 : Su) (t1 : (List Int)) {y : denL [.bool]} (h : Ev fun _ =>
 (Option.bind (F47 (t0, ())) fun (y : Bool × Unit) => bif !y.1 then Option.bind (F23 (t0, 0, 1, ())) fun (y : Int × Int × Unit) => Option.bind (F47 (t0, ())) fun (y_1 : Bool × Unit) => bif y_1.1 then bif eqD Ty.bool (y.2.1 == 0) ((↑(List.length t0.2.2.1) : Int) == 2) then Option.bind (F25 ()) fun (y : Bool × Unit) => some (y.1, ()) else some (false, ()) else bif eqD Ty.bool (y.2.1 == 0) false then Option.bind (F25 ()) fun (y : Bool × Unit) => some (y.1, ()) else some (false, ()) else bif decide ((↑(List.length t0.2.2.1) : Int) < 3) then Option.bind (F23 (t0, 0, 1, ())) fun (y : Int × Int × Unit) => Option.bind (F47 (t0, ())) fun (y_1 : Bool × Unit) => bif y_1.1 then bif eqD Ty.bool (y.2.1 == 0) ((↑(List.length t0.2.2.1) : Int) == 2) then Option.bind (F25 ()) fun (y : Bool × Unit) => some (y.1, ()) else some (false, ()) else bif eqD Ty.bool (y.2.1 == 0) false then Option.bind (F25 ()) fun (y : Bool × Unit) => some (y.1, ()) else some (false, ()) else bif decide ((↑(List.length t0.2.2.1) : Int) = 0) then none else bif decide ((↑(List.length t0.2.2.1) : Int) = 0) then none else bif decide ((↑(List.length t0.2.2.1) : Int) = 0) then none else bif Int.tmod (IntKind.wrap IntKind.i64 (List.getD t1 0 0)) (↑(List.length t0.2.2.1) : Int) == Int.tmod (IntKind.wrap IntKind.i64 (List.getD t1 1 0)) (↑(List.length t0.2.2.1) : Int) then Option.bind (F23 (t0, Int.tmod (IntKind.wrap IntKind.i64 (List.getD t1 1 0)) (↑(List.length t0.2.2.1) : Int), Int.tmod (IntKind.wrap IntKind.i64 (List.getD t1 1 0)) (↑(List.length t0.2.2.1) : Int), ())) fun (y : Int × Int × Unit) => bif y.2.1 == 2 then Option.bind (F25 ()) fun (y : Bool × Unit) => some (y.1, ()) else some (false, ()) else bif Int.tmod (IntKind.wrap IntKind.i64 (List.getD t1 1 0)) (↑(List.length t0.2.2.1) : Int) == Int.tmod (IntKind.wrap IntKind.i64 (List.getD t1 2 0)) (↑(List.length t0.2.2.1) : Int) then Option.bind (F23 (t0, Int.tmod (IntKind.wrap IntKind.i64 (List.getD t1 1 0)) (↑(List.length t0.2.2.1) : Int), Int.tmod (IntKind.wrap IntKind.i64 (List.getD t1 1 0)) (↑(List.length t0.2.2.1) : Int), ())) fun (y : Int × Int × Unit) => bif y.2.1 == 2 then Option.bind (F25 ()) fun (y : Bool × Unit) => some (y.1, ()) else some (false, ()) else bif Int.tmod (IntKind.wrap IntKind.i64 (List.getD t1 0 0)) (↑(List.length t0.2.2.1) : Int) == Int.tmod (IntKind.wrap IntKind.i64 (List.getD t1 2 0)) (↑(List.length t0.2.2.1) : Int) then Option.bind (F23 (t0, Int.tmod (IntKind.wrap IntKind.i64 (List.getD t1 1 0)) (↑(List.length t0.2.2.1) : Int), Int.tmod (IntKind.wrap IntKind.i64 (List.getD t1 1 0)) (↑(List.length t0.2.2.1) : Int), ())) fun (y : Int × Int × Unit) => bif y.2.1 == 2 then Option.bind (F25 ()) fun (y : Bool × Unit) => some (y.1, ()) else some (false, ()) else Option.bind (F23 (t0, Int.tmod (IntKind.wrap IntKind.i64 (List.getD t1 0 0)) (↑(List.length t0.2.2.1) : Int), Int.tmod (IntKind.wrap IntKind.i64 (List.getD t1 1 0)) (↑(List.length t0.2.2.1) : Int), ())) fun (y : Int × Int × Unit) => Option.bind (F23 (t0, Int.tmod (IntKind.wrap IntKind.i64 (List.getD t1 1 0)) (↑(List.length t0.2.2.1) : Int), Int.tmod (IntKind.wrap IntKind.i64 (List.getD t1 2 0)) (↑(List.length t0.2.2.1) : Int), ())) fun (y_1 : Int × Int × Unit) => Option.bind (F23 (t0, Int.tmod (IntKind.wrap IntKind.i64 (List.getD t1 0 0)) (↑(List.length t0.2.2.1) : Int), Int.tmod (IntKind.wrap IntKind.i64 (List.getD t1 2 0)) (↑(List.length t0.2.2.1) : Int), ())) fun (y_2 : Int × Int × Unit) => Option.bind (F23 (t0, Int.tmod (IntKind.wrap IntKind.i64 (List.getD t1 2 0)) (↑(List.length t0.2.2.1) : Int), Int.tmod (IntKind.wrap IntKind.i64 (List.getD t1 0 0)) (↑(List.length t0.2.2.1) : Int), ())) fun (y_3 : Int × Int × Unit) => bif y.2.1 != 0 then some (false, ()) else bif y_1.2.1 != 0 then some (false, ()) else bif y_2.2.1 != 0 then some (false, ()) else bif y_3.2.1 != 0 then some (false, ()) else bif y_2.1 != y_3.1 then some (false, ()) else bif y.1 == 1 then bif y_1.1 == 1 then bif y_2.1 != 1 then some (false, ()) else bif y_2.1 == 2 then bif y_1.1 != 2 then some (false, ()) else bif decide (0 ≤ Int.tmod (IntKind.wrap IntKind.i64 (List.getD t1 0 0)) (↑(List.length t0.2.2.1) : Int)) && decide (Int.tmod (IntKind.wrap IntKind.i64 (List.getD t1 0 0)) (↑(List.length t0.2.2.1) : Int) < (↑(List.length t0.2.2.1) : Int)) then bif decide (0 ≤ Int.tmod (IntKind.wrap IntKind.i64 (List.getD t1 1 0)) (↑(List.length t0.2.2.1) : Int)) && decide (Int.tmod (IntKind.wrap IntKind.i64 (List.getD t1 1 0)) (↑(List.length t0.2.2.1) : Int) < (↑(List.length t0.2.2.1) : Int)) then bif Prod.fst (List.getD t0.2.2.1 (Int.toNat (Int.tmod (IntKind.wrap IntKind.i64 (List.getD t1 0 0)) (↑(List.length t0.2.2.1) : Int))) (0, 0, 0, ())) != Prod.fst (List.getD t0.2.2.1 (Int.toNat (Int.tmod (IntKind.wrap IntKind.i64 (List.getD t1 1 0)) (↑(List.length t0.2.2.1) : Int))) (0, 0, 0, ())) then bif Prod.fst (Prod.snd (List.getD t0.2.2.1 (Int.toNat (Int.tmod (IntKind.wrap IntKind.i64 (List.getD t1 0 0)) (↑(List.length t0.2.2.1) : Int))) (0, 0, 0, ()))) == Prod.fst (Prod.snd (List.getD t0.2.2.1 (Int.toNat (Int.tmod (IntKind.wrap IntKind.i64 (List.getD t1 1 0)) (↑(List.length t0.2.2.1) : Int))) (0, 0, 0, ()))) then Option.bind (F25 ()) fun (y : Bool × Unit) => some (y.1, ()) else bif y.1 == 2 then Option.bind (F25 ()) fun (y : Bool × Unit) => some (y.1, ()) else some (false, ()) else bif y.1 == 2 then Option.bind (F25 ()) fun (y : Bool × Unit) => some (y.1, ()) else some (false, ()) else none else none else bif decide (0 ≤ Int.tmod (IntKind.wrap IntKind.i64 (List.getD t1 0 0)) (↑(List.length t0.2.2.1) : Int)) && decide (Int.tmod (IntKind.wrap IntKind.i64 (List.getD t1 0 0)) (↑(List.length t0.2.2.1) : Int) < (↑(List.length t0.2.2.1) : Int)) then bif decide (0 ≤ Int.tmod (IntKind.wrap IntKind.i64 (List.getD t1 1 0)) (↑(List.length t0.2.2.1) : Int)) && decide (Int.tmod (IntKind.wrap IntKind.i64 (List.getD t1 1 0)) (↑(List.length t0.2.2.1) : Int) < (↑(List.length t0.2.2.1) : Int)) then bif Prod.fst (List.getD t0.2.2.1 (Int.toNat (Int.tmod (IntKind.wrap IntKind.i64 (List.getD t1 0 0)) (↑(List.length t0.2.2.1) : Int))) (0, 0, 0, ())) != Prod.fst (List.getD t0.2.2.1 (Int.toNat (Int.tmod (IntKind.wrap IntKind.i64 (List.getD t1 1 0)) (↑(List.length t0.2.2.1) : Int))) (0, 0, 0, ())) then bif Prod.fst (Prod.snd (List.getD t0.2.2.1 (Int.toNat (Int.tmod (IntKind.wrap IntKind.i64 (List.getD t1 0 0)) (↑(List.length t0.2.2.1) : Int))) (0, 0, 0, ()))) == Prod.fst (Prod.snd (List.getD t0.2.2.1 (Int.toNat (Int.tmod (IntKind.wrap IntKind.i64 (List.getD t1 1 0)) (↑(List.length t0.2.2.1) : Int))) (0, 0, 0, ()))) then Option.bind (F25 ()) fun (y : Bool × Unit) => some (y.1, ()) else bif y.1 == 2 then Option.bind (F25 ()) fun (y : Bool × Unit) => some (y.1, ()) else some (false, ()) else bif y.1 == 2 then Option.bind (F25 ()) fun (y : Bool × Unit) => some (y.1, ()) else some (false, ()) else none else none else bif y_2.1 == 2 then bif y_1.1 != 2 then some (false, ()) else bif decide (0 ≤ Int.tmod (IntKind.wrap IntKind.i64 (List.getD t1 0 0)) (↑(List.length t0.2.2.1) : Int)) && decide (Int.tmod (IntKind.wrap IntKind.i64 (List.getD t1 0 0)) (↑(List.length t0.2.2.1) : Int) < (↑(List.length t0.2.2.1) : Int)) then bif decide (0 ≤ Int.tmod (IntKind.wrap IntKind.i64 (List.getD t1 1 0)) (↑(List.length t0.2.2.1) : Int)) && decide (Int.tmod (IntKind.wrap IntKind.i64 (List.getD t1 1 0)) (↑(List.length t0.2.2.1) : Int) < (↑(List.length t0.2.2.1) : Int)) then bif Prod.fst (List.getD t0.2.2.1 (Int.toNat (Int.tmod (IntKind.wrap IntKind.i64 (List.getD t1 0 0)) (↑(List.length t0.2.2.1) : Int))) (0, 0, 0, ())) != Prod.fst (List.getD t0.2.2.1 (Int.toNat (Int.tmod (IntKind.wrap IntKind.i64 (List.getD t1 1 0)) (↑(List.length t0.2.2.1) : Int))) (0, 0, 0, ())) then bif Prod.fst (Prod.snd (List.getD t0.2.2.1 (Int.toNat (Int.tmod (IntKind.wrap IntKind.i64 (List.getD t1 0 0)) (↑(List.length t0.2.2.1) : Int))) (0, 0, 0, ()))) == Prod.fst (Prod.snd (List.getD t0.2.2.1 (Int.toNat (Int.tmod (IntKind.wrap IntKind.i64 (List.getD t1 1 0)) (↑(List.length t0.2.2.1) : Int))) (0, 0, 0, ()))) then Option.bind (F25 ()) fun (y : Bool × Unit) => some (y.1, ()) else bif y.1 == 2 then Option.bind (F25 ()) fun (y : Bool × Unit) => some (y.1, ()) else some (false, ()) else bif y.1 == 2 then Option.bind (F25 ()) fun (y : Bool × Unit) => some (y.1, ()) else some (false, ()) else none else none else bif decide (0 ≤ Int.tmod (IntKind.wrap IntKind.i64 (List.getD t1 0 0)) (↑(List.length t0.2.2.1) : Int)) && decide (Int.tmod (IntKind.wrap IntKind.i64 (List.getD t1 0 0)) (↑(List.length t0.2.2.1) : Int) < (↑(List.length t0.2.2.1) : Int)) then bif decide (0 ≤ Int.tmod (IntKind.wrap IntKind.i64 (List.getD t1 1 0)) (↑(List.length t0.2.2.1) : Int)) && decide (Int.tmod (IntKind.wrap IntKind.i64 (List.getD t1 1 0)) (↑(List.length t0.2.2.1) : Int) < (↑(List.length t0.2.2.1) : Int)) then bif Prod.fst (List.getD t0.2.2.1 (Int.toNat (Int.tmod (IntKind.wrap IntKind.i64 (List.getD t1 0 0)) (↑(List.length t0.2.2.1) : Int))) (0, 0, 0, ())) != Prod.fst (List.getD t0.2.2.1 (Int.toNat (Int.tmod (IntKind.wrap IntKind.i64 (List.getD t1 1 0)) (↑(List.length t0.2.2.1) : Int))) (0, 0, 0, ())) then bif Prod.fst (Prod.snd (List.getD t0.2.2.1 (Int.toNat (Int.tmod (IntKind.wrap IntKind.i64 (List.getD t1 0 0)) (↑(List.length t0.2.2.1) : Int))) (0, 0, 0, ()))) == Prod.fst (Prod.snd (List.getD t0.2.2.1 (Int.toNat (Int.tmod (IntKind.wrap IntKind.i64 (List.getD t1 1 0)) (↑(List.length t0.2.2.1) : Int))) (0, 0, 0, ()))) then Option.bind (F25 ()) fun (y : Bool × Unit) => some (y.1, ()) else bif y.1 == 2 then Option.bind (F25 ()) fun (y : Bool × Unit) => some (y.1, ()) else some (false, ()) else bif y.1 == 2 then Option.bind (F25 ()) fun (y : Bool × Unit) => some (y.1, ()) else some (false, ()) else none else none else bif decide (0 ≤ Int.tmod (IntKind.wrap IntKind.i64 (List.getD t1 0 0)) (↑(List.length t0.2.2.1) : Int)) && decide (Int.tmod (IntKind.wrap IntKind.i64 (List.getD t1 0 0)) (↑(List.length t0.2.2.1) : Int) < (↑(List.length t0.2.2.1) : Int)) then bif decide (0 ≤ Int.tmod (IntKind.wrap IntKind.i64 (List.getD t1 1 0)) (↑(List.length t0.2.2.1) : Int)) && decide (Int.tmod (IntKind.wrap IntKind.i64 (List.getD t1 1 0)) (↑(List.length t0.2.2.1) : Int) < (↑(List.length t0.2.2.1) : Int)) then bif Prod.fst (List.getD t0.2.2.1 (Int.toNat (Int.tmod (IntKind.wrap IntKind.i64 (List.getD t1 0 0)) (↑(List.length t0.2.2.1) : Int))) (0, 0, 0, ())) != Prod.fst (List.getD t0.2.2.1 (Int.toNat (Int.tmod (IntKind.wrap IntKind.i64 (List.getD t1 1 0)) (↑(List.length t0.2.2.1) : Int))) (0, 0, 0, ())) then bif Prod.fst (Prod.snd (List.getD t0.2.2.1 (Int.toNat (Int.tmod (IntKind.wrap IntKind.i64 (List.getD t1 0 0)) (↑(List.length t0.2.2.1) : Int))) (0, 0, 0, ()))) == Prod.fst (Prod.snd (List.getD t0.2.2.1 (Int.toNat (Int.tmod (IntKind.wrap IntKind.i64 (List.getD t1 1 0)) (↑(List.length t0.2.2.1) : Int))) (0, 0, 0, ()))) then Option.bind (F25 ()) fun (y : Bool × Unit) => some (y.1, ()) else bif y.1 == 2 then Option.bind (F25 ()) fun (y : Bool × Unit) => some (y.1, ()) else some (false, ()) else bif y.1 == 2 then Option.bind (F25 ()) fun (y : Bool × Unit) => some (y.1, ()) else some (false, ()) else none else none : Option (denL [.bool])) = some y) : F10 (t0, (t1, ())) = some y := ghost_eq (Ev.eq (fun _ => by kernel_rfl) h)
end Go.Proofs.Ytkhhbpocmmmnmaa
/- Law 10: handed on. Conditions: as each lemma states. -/
namespace Go.Proofs.Ytkhhbpocmmmnmaa
open Go Go.Gh Go.Proofs
theorem same_err {s : Su} (h : someP s = false) (a c : Int) : (sameP s a c).2.1 ≠ 0 := by
 have := errP_ne h (askS s a c) (ne2 four_ne two_ne)
 unfold sameP
 rw [if_neg this]
 exact this
theorem same_self {s : Su} (hs : VS s) {b : Nat} (hb : b < s.2.2.1.length) : (sameP s (b : Int) (b : Int)).2.1 = 2 := by
 have hi : indexP s (b : Int) s.2.2.1.length = 0 := by
  unfold indexP
  rw [if_pos ((chkP_ok s).2 hs), outP_f.2 ⟨by omega, by omega⟩]
  rfl
 have he : errP s (askS s (b : Int) (b : Int)) = 2 := by
  rw [errP_two]
  have : twoP s (b : Int) (b : Int) = 2 := by
   unfold twoP
   rw [if_pos hi, if_pos hi, if_pos rfl]
  rw [this, if_neg (by decide)]
 unfold sameP
 rw [if_neg (by rw [he]; decide)]
 exact he
theorem same_few {s : Su} (_ : VS s) (h : s.2.2.1.length < 2) : (sameP s 0 1).2.1 ≠ 0 := by
 have he : errP s (askS s 0 1) ≠ 0 := fun he => by
  obtain ⟨_, ha, _⟩ := errP_ok (ne2 four_ne two_ne) he
  have := ask2 (ha (askB s.2.2.1.length [0, 1]) (by simp))
  omega
 unfold sameP
 rw [if_neg he]
 exact he
theorem sett_sym (L : List Tr) (a c : Nat) : sett (fun t => t.2.1.getD a 0 == t.2.1.getD c 0) L = sett (fun t => t.2.1.getD c 0 == t.2.1.getD a 0) L := by
 have : (fun t : Tr => t.2.1.getD a 0 == t.2.1.getD c 0) = fun t : Tr => t.2.1.getD c 0 == t.2.1.getD a 0 := by
  funext t
  rw [Bool.eq_iff_iff, beq_iff_eq, beq_iff_eq]
  exact eq_comm
 rw [this]
theorem eqB (a b : Bool) : eqD Ty.bool a b = (a == b) := by simp only [eqD]
theorem L10 (s : Su) (x : List Int) (hx : ∀ v ∈ x, 0 ≤ v ∧ v ≤ 255) : F10 ((s, x, ()) : Su × List Int × Unit) = some (true, ()) := by
 refine N10 _ _ ?_
 rw [L47]
 simp only [Option.bind_some]
 cases hv : someP s with
 | false =>
  simp only [Bool.not_false, cond_true, cond_false]
  rw [L23]
  simp only [Option.bind_some]
  rw [bqf (same_err hv 0 1), eqB]
  exact awake_end rfl
 | true =>
  obtain ⟨hs, ht⟩ := someP_t.1 hv
  simp only [Bool.not_true, cond_false, cond_true]
  have h5 := hs.n5
  by_cases h3 : s.2.2.1.length < 3
  ·rw [dec_t (show (s.2.2.1.length : Int) < 3 by omega), L23]
   simp only [cond_true, Option.bind_some]
   rw [eqB]
   by_cases h2 : s.2.2.1.length = 2
   ·have := same_ok hs ht (a := 0) (c := 1) (by omega) (by omega) (by omega)
    rw [show sameP s 0 1 = sameP s ((0 : Nat) : Int) ((1 : Nat) : Int) from rfl, this, bq (show (s.2.2.1.length : Int) = 2 by omega)]
    exact awake_end rfl
   ·rw [bqf (same_few hs (by omega)), bqf (show (s.2.2.1.length : Int) ≠ 2 by omega)]
    exact awake_end rfl
  ·rw [dec_f (show ¬ (s.2.2.1.length : Int) < 3 by omega)]
   have hne := refL_ne hs ht
   obtain ⟨u, hu, hu2⟩ := u8_at hx 0
   obtain ⟨v, hvv, hv2⟩ := u8_at hx 1
   obtain ⟨w, hw, hw2⟩ := u8_at hx 2
   rw [dec_f (show ¬ (s.2.2.1.length : Int) = 0 by omega), hu, hvv, hw, wrap_id (x := (u : Int)) (by omega) (by omega), wrap_id (x := (v : Int)) (by omega) (by omega), wrap_id (x := (w : Int)) (by omega) (by omega), tmod_mod u _ (by omega), tmod_mod v _ (by omega), tmod_mod w _ (by omega)]
   simp only [cond_false]
   have ha := Nat.mod_lt u (show 0 < s.2.2.1.length by omega)
   have hb := Nat.mod_lt v (show 0 < s.2.2.1.length by omega)
   have hc := Nat.mod_lt w (show 0 < s.2.2.1.length by omega)
   generalize u % s.2.2.1.length = a at *
   generalize v % s.2.2.1.length = b at *
   generalize w % s.2.2.1.length = c at *
   have self : Ev fun k => ((Option.bind (F23 ((s, (b : Int), (b : Int), ()) : Su × Int × Int × Unit)) fun (y : Int × Int × Unit) => bif y.2.1 == 2 then Option.bind (F25 ()) fun (y : Bool × Unit) => some (y.1, ()) else some (false, ()) : Option (denL [.bool]))) = some (true, ()) := by
    rw [L23]
    simp only [Option.bind_some]
    rw [bq (same_self hs hb)]
    exact awake_end rfl
   by_cases hab : a = b
   ·rw [bq (show (a : Int) = (b : Int) by omega)]
    exact self
   by_cases hbc : b = c
   ·rw [bqf (show (a : Int) ≠ (b : Int) by omega), bq (show (b : Int) = (c : Int) by omega)]
    exact self
   by_cases hac : a = c
   ·rw [bqf (show (a : Int) ≠ (b : Int) by omega), bqf (show (b : Int) ≠ (c : Int) by omega), bq (show (a : Int) = (c : Int) by omega)]
    exact self
   rw [bqf (show (a : Int) ≠ (b : Int) by omega), bqf (show (b : Int) ≠ (c : Int) by omega), bqf (show (a : Int) ≠ (c : Int) by omega)]
   simp only [cond_false]
   rw [L23, L23, L23, L23, same_ok hs ht ha hb hab, same_ok hs ht hb hc hbc, same_ok hs ht ha hc hac, same_ok hs ht hc ha (Ne.symm hac), sett_sym (refL s) c a]
   simp only [Option.bind_some, bne_self_eq_false, cond_false]
   rw [Int.toNat_natCast, Int.toNat_natCast, dec_t (show (0 : Int) ≤ (a : Int) by omega), dec_t (show (a : Int) < (s.2.2.1.length : Int) by omega), dec_t (show (0 : Int) ≤ (b : Int) by omega), dec_t (show (b : Int) < (s.2.2.1.length : Int) by omega), show s.2.2.1.getD a (0, 0, 0, ()) = s.2.2.1.getD a sn0 from rfl, show s.2.2.1.getD b (0, 0, 0, ()) = s.2.2.1.getD b sn0 from rfl]
   simp only [Bool.and_self, cond_true]
   have f1 : sett (fun t => t.2.1.getD a 0 == t.2.1.getD b 0) (refL s) = 1 → sett (fun t => t.2.1.getD b 0 == t.2.1.getD c 0) (refL s) = 1 → sett (fun t => t.2.1.getD a 0 == t.2.1.getD c 0) (refL s) = 1 := fun h1 h2 => sett_must.2 fun t hm => by
    have e1 := eq_of_beq (sett_must.1 h1 t hm)
    have e2 := eq_of_beq (sett_must.1 h2 t hm)
    exact bq (e1.trans e2)
   have f2 : sett (fun t => t.2.1.getD a 0 == t.2.1.getD b 0) (refL s) = 1 → sett (fun t => t.2.1.getD a 0 == t.2.1.getD c 0) (refL s) = 2 → sett (fun t => t.2.1.getD b 0 == t.2.1.getD c 0) (refL s) = 2 := fun h1 h2 => (sett_never hne).2 fun t hm => by
    have e1 := eq_of_beq (sett_must.1 h1 t hm)
    have e2 := (sett_never hne).1 h2 t hm
    rw [← e1]
    exact e2
   have f3 : ((s.2.2.1.getD a sn0).1 != (s.2.2.1.getD b sn0).1) = false ∨ ((s.2.2.1.getD a sn0).2.1 == (s.2.2.1.getD b sn0).2.1) = false → sett (fun t => t.2.1.getD a 0 == t.2.1.getD b 0) (refL s) = 2 := fun h => (sett_never hne).2 fun t hm => by
    refine bqf fun he => ?_
    have hcan := (mem_refL.1 hm).fits a b ha hb hab he
    rw [canP_eq, Bool.and_eq_true, Bool.and_eq_true] at hcan
    rcases h with h | h
    ·rw [h] at hcan; exact absurd hcan.1.2 (by decide)
    ·rw [h] at hcan; exact absurd hcan.1.1 (by decide)
   have c1 := sett_cases (fun t => t.2.1.getD a 0 == t.2.1.getD b 0) (refL s)
   have c2 := sett_cases (fun t => t.2.1.getD b 0 == t.2.1.getD c 0) (refL s)
   have c3 := sett_cases (fun t => t.2.1.getD a 0 == t.2.1.getD c 0) (refL s)
   generalize sett (fun t => t.2.1.getD a 0 == t.2.1.getD b 0) (refL s) = ab at *
   generalize sett (fun t => t.2.1.getD b 0 == t.2.1.getD c 0) (refL s) = bc at *
   generalize sett (fun t => t.2.1.getD a 0 == t.2.1.getD c 0) (refL s) = ac at *
   generalize ((s.2.2.1.getD a sn0).1 != (s.2.2.1.getD b sn0).1) = dq at *
   generalize ((s.2.2.1.getD a sn0).2.1 == (s.2.2.1.getD b sn0).2.1) = be at *
   clear self hne hu hvv hw
   rcases c1 with rfl | rfl | rfl <;> rcases c2 with rfl | rfl | rfl <;> rcases c3 with rfl | rfl | rfl <;> cases dq <;> cases be <;> first | exact awake_end rfl | (exfalso; have := f1 rfl rfl; omega) | (exfalso; have := f2 rfl rfl; omega) | (exfalso; have := f3 (.inl rfl); omega) | (exfalso; have := f3 (.inr rfl); omega)
end Go.Proofs.Ytkhhbpocmmmnmaa
