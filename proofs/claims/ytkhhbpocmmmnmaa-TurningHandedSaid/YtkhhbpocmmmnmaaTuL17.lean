/- What the ghost comes to: law 17. Conditions: none (equations, each by computation). -/
import Derived.Test.YtkhhbpocmmmnmaaTuH
import Derived.Test.YtkhhbpocmmmnmaaTuL13
namespace Go.Proofs.Ytkhhbpocmmmnmaa
open Go Go.Gh Go.Proofs
def S17 : List Gh.Spec := []
noncomputable def F17 : denL [tSu, (.arr 2 (.int .u8))] → Option (denL [.bool]) := ghost cx41 S17 6000 17 [tSu, (.arr 2 (.int .u8))] [.bool]
theorem N17 (t0 : Su) (t1 : (List Int)) {y : denL [.bool]} (h : Ev fun _ =>
 (Option.bind (F47 (t0, ())) fun (y : Bool × Unit) => bif !y.1 then Option.bind (F31 (t0, 0, 0, ())) fun (y : Sp × Int × Unit) => bif y.2.1 != 0 then Option.bind (F25 ()) fun (y : Bool × Unit) => some (y.1, ()) else some (false, ()) else bif (↑(List.length t0.2.2.1) : Int) == 0 then Option.bind (F31 (t0, 0, 0, ())) fun (y : Sp × Int × Unit) => bif y.2.1 != 0 then Option.bind (F25 ()) fun (y : Bool × Unit) => some (y.1, ()) else some (false, ()) else bif decide ((↑(List.length t0.2.2.1) : Int) = 0) then none else bif decide ((↑(List.length t0.2.2.1) : Int) = 0) then none else bif decide (0 ≤ Int.tmod (IntKind.wrap IntKind.i64 (List.getD t1 0 0)) (↑(List.length t0.2.2.1) : Int)) && decide (Int.tmod (IntKind.wrap IntKind.i64 (List.getD t1 0 0)) (↑(List.length t0.2.2.1) : Int) < (↑(List.length t0.2.2.1) : Int)) then bif decide (0 ≤ Int.tmod (IntKind.wrap IntKind.i64 (List.getD t1 1 0)) (↑(List.length t0.2.2.1) : Int)) && decide (Int.tmod (IntKind.wrap IntKind.i64 (List.getD t1 1 0)) (↑(List.length t0.2.2.1) : Int) < (↑(List.length t0.2.2.1) : Int)) then Option.bind (F31 (t0, Int.tmod (IntKind.wrap IntKind.i64 (List.getD t1 0 0)) (↑(List.length t0.2.2.1) : Int), Prod.fst (List.getD t0.2.2.1 (Int.toNat (Int.tmod (IntKind.wrap IntKind.i64 (List.getD t1 0 0)) (↑(List.length t0.2.2.1) : Int))) (0, 0, 0, ())), ())) fun (y : Sp × Int × Unit) => Option.bind (F33 (t0, Int.tmod (IntKind.wrap IntKind.i64 (List.getD t1 0 0)) (↑(List.length t0.2.2.1) : Int), Prod.fst (List.getD t0.2.2.1 (Int.toNat (Int.tmod (IntKind.wrap IntKind.i64 (List.getD t1 0 0)) (↑(List.length t0.2.2.1) : Int))) (0, 0, 0, ())), ())) fun (y_1 : Int × Int × Unit) => bif y.2.1 != 0 then some (false, ()) else bif y_1.2.1 != 0 then some (false, ()) else Option.bind (F39 (Prod.fst (Prod.snd (Prod.snd (List.getD t0.2.2.1 (Int.toNat (Int.tmod (IntKind.wrap IntKind.i64 (List.getD t1 0 0)) (↑(List.length t0.2.2.1) : Int))) (0, 0, 0, ())))), Prod.fst (Prod.snd (Prod.snd (List.getD t0.2.2.1 (Int.toNat (Int.tmod (IntKind.wrap IntKind.i64 (List.getD t1 0 0)) (↑(List.length t0.2.2.1) : Int))) (0, 0, 0, ())))), ())) fun (y_2 : Sp × Unit) => bif !eqD (Ty.struct [Ty.int IntKind.i64, Ty.int IntKind.i64]) y.1 y_2.1 then some (false, ()) else bif y_1.1 != 2 then some (false, ()) else bif Int.tmod (IntKind.wrap IntKind.i64 (List.getD t1 0 0)) (↑(List.length t0.2.2.1) : Int) == Int.tmod (IntKind.wrap IntKind.i64 (List.getD t1 1 0)) (↑(List.length t0.2.2.1) : Int) then Option.bind (F25 ()) fun (y : Bool × Unit) => some (y.1, ()) else Option.bind (F23 (t0, Int.tmod (IntKind.wrap IntKind.i64 (List.getD t1 0 0)) (↑(List.length t0.2.2.1) : Int), Int.tmod (IntKind.wrap IntKind.i64 (List.getD t1 1 0)) (↑(List.length t0.2.2.1) : Int), ())) fun (y : Int × Int × Unit) => Option.bind (F31 (t0, Int.tmod (IntKind.wrap IntKind.i64 (List.getD t1 0 0)) (↑(List.length t0.2.2.1) : Int), Prod.fst (List.getD t0.2.2.1 (Int.toNat (Int.tmod (IntKind.wrap IntKind.i64 (List.getD t1 1 0)) (↑(List.length t0.2.2.1) : Int))) (0, 0, 0, ())), ())) fun (y_3 : Sp × Int × Unit) => bif y.2.1 != 0 then some (false, ()) else bif y_3.2.1 != 0 then some (false, ()) else Option.bind (F55 (y_3.1.1, -600, 600, ())) fun (y_4 : Bool × Unit) => bif !y_4.1 then some (false, ()) else Option.bind (F55 (y_3.1.2.1, -600, 600, ())) fun (y_5 : Bool × Unit) => bif !y_5.1 then some (false, ()) else bif y.1 != 1 then Option.bind (F25 ()) fun (y : Bool × Unit) => some (y.1, ()) else Option.bind (F56 (y_3.1.1, Prod.fst (Prod.snd (Prod.snd (List.getD t0.2.2.1 (Int.toNat (Int.tmod (IntKind.wrap IntKind.i64 (List.getD t1 1 0)) (↑(List.length t0.2.2.1) : Int))) (0, 0, 0, ())))), t0.2.1, ())) fun (y : Bool × Unit) => bif y.1 then Option.bind (F56 (y_3.1.2.1, Prod.fst (Prod.snd (Prod.snd (List.getD t0.2.2.1 (Int.toNat (Int.tmod (IntKind.wrap IntKind.i64 (List.getD t1 1 0)) (↑(List.length t0.2.2.1) : Int))) (0, 0, 0, ())))), t0.2.1, ())) fun (y : Bool × Unit) => bif y.1 then Option.bind (F25 ()) fun (y : Bool × Unit) => some (y.1, ()) else some (false, ()) else some (false, ()) else none else none : Option (denL [.bool])) = some y) : F17 (t0, (t1, ())) = some y := ghost_eq (Ev.eq (fun _ => by kernel_rfl) h)
end Go.Proofs.Ytkhhbpocmmmnmaa
/- Law 17: on its own day. Conditions: as each lemma states. -/
namespace Go.Proofs.Ytkhhbpocmmmnmaa
open Go Go.Gh Go.Proofs
theorem mul_bd30 {q d : Int} (q0 : 0 ≤ q) (q1 : q ≤ 16) (d0 : -30 ≤ d) (d1 : d ≤ 30) : -480 ≤ q * d ∧ q * d ≤ 480 := by
 have a1 : q * d ≤ 480 := by
  by_cases h : 0 ≤ d
  ·have := Int.mul_le_mul q1 d1 h (by omega); omega
  ·have := Int.mul_nonneg q0 (show 0 ≤ -d by omega)
   rw [Int.mul_neg] at this; omega
 have a2 : -480 ≤ q * d := by
  by_cases h : 0 ≤ d
  ·have := Int.mul_nonneg q0 h; omega
  ·have := Int.mul_le_mul q1 (show -d ≤ 30 by omega) (by omega) (by omega)
   rw [Int.mul_neg] at this; omega
 exact ⟨a2, a1⟩
theorem place_own (x : Sn) (r : List Int) : placeP x r x.1 = x.2.2.1 := by
 unfold placeP
 rw [Int.sub_self, Int.mul_zero, Int.add_zero]
theorem hull_const {L : List Tr} (h : L ≠ []) {f : Tr → Int} {v : Int} (hf : ∀ t ∈ L, f t = v) : hullL (L.map f) = (v, v, ()) := by
 obtain ⟨⟨t1, m1, e1⟩, t2, m2, e2⟩ := hull_map_at (f := f) h
 rw [hf t1 m1] at e1
 rw [hf t2 m2] at e2
 exact Prod.ext e1.symm (Prod.ext e2.symm rfl)
theorem tmod_mod (n m : Nat) (_ : 0 < m) : Int.tmod (n : Int) (m : Int) = ((n % m : Nat) : Int) := by
 rw [Int.tmod_eq_emod_of_nonneg (by omega)]; simp
theorem u8_at {x : List Int} (h : ∀ v ∈ x, 0 ≤ v ∧ v ≤ 255) (i : Nat) : ∃ n : Nat, x.getD i 0 = (n : Int) ∧ n ≤ 255 := by
 have hb : 0 ≤ x.getD i 0 ∧ x.getD i 0 ≤ 255 := by
  rw [List.getD_eq_getElem?_getD]
  cases hq : x[i]? with
  | none => simp
  | some v => exact h v (List.mem_of_getElem? hq)
 exact ⟨(x.getD i 0).toNat, by omega, by omega⟩
theorem where_err {s : Su} (h : someP s = false ∨ s.2.2.1.length = 0) (a day : Int) : (whereP s a day).2.1 ≠ 0 := by
 have : errP s (askD s a day) ≠ 0 := by
  rcases h with h | h
  ·exact errP_ne h _ (ne2 four_ne seven_ne)
  ·intro he
   have := (askD_ok he).2.1
   omega
 unfold whereP
 rw [if_neg this]
 exact this
theorem L17 (s : Su) (x : List Int) (hx : ∀ v ∈ x, 0 ≤ v ∧ v ≤ 255) : F17 ((s, x, ()) : Su × List Int × Unit) = some (true, ()) := by
 refine N17 _ _ ?_
 rw [L47]
 simp only [Option.bind_some]
 cases hv : someP s with
 | false =>
  simp only [Bool.not_false, cond_true]
  rw [L31]
  simp only [Option.bind_some]
  rw [nbqf (where_err (.inl hv) 0 0)]
  exact awake_end rfl
 | true =>
  obtain ⟨hs, ht⟩ := someP_t.1 hv
  simp only [Bool.not_true, cond_false]
  by_cases h0 : s.2.2.1.length = 0
  ·rw [bq (show (s.2.2.1.length : Int) = 0 by omega), L31]
   simp only [cond_true, Option.bind_some]
   rw [nbqf (where_err (.inr h0) 0 0)]
   exact awake_end rfl
  ·have h5 := hs.n5
   have hne := refL_ne hs ht
   have hoff := hs.off
   obtain ⟨u, hu, hu2⟩ := u8_at hx 0
   obtain ⟨v, hvv, hv2⟩ := u8_at hx 1
   rw [bqf (show (s.2.2.1.length : Int) ≠ 0 by omega), dec_f (show ¬ (s.2.2.1.length : Int) = 0 by omega), hu, hvv, wrap_id (x := (u : Int)) (by omega) (by omega), wrap_id (x := (v : Int)) (by omega) (by omega), tmod_mod u _ (by omega), tmod_mod v _ (by omega)]
   simp only [cond_false]
   have ha := Nat.mod_lt u (show 0 < s.2.2.1.length by omega)
   have hb := Nat.mod_lt v (show 0 < s.2.2.1.length by omega)
   generalize u % s.2.2.1.length = a at *
   generalize v % s.2.2.1.length = b at *
   have xa := hs.seen a ha
   have xb := hs.seen b hb
   rw [Int.toNat_natCast, Int.toNat_natCast, dec_t (show (0 : Int) ≤ (a : Int) by omega), dec_t (show (a : Int) < (s.2.2.1.length : Int) by omega), dec_t (show (0 : Int) ≤ (b : Int) by omega), dec_t (show (b : Int) < (s.2.2.1.length : Int) by omega), show s.2.2.1.getD a (0, 0, 0, ()) = s.2.2.1.getD a sn0 from rfl, show s.2.2.1.getD b (0, 0, 0, ()) = s.2.2.1.getD b sn0 from rfl]
   simp only [Bool.and_self, cond_true]
   have hw : whereP s (a : Int) (s.2.2.1.getD a sn0).1 = (((s.2.2.1.getD a sn0).2.2.1, (s.2.2.1.getD a sn0).2.2.1, ()), 0, ()) := by
    rw [where_ok hs ht ha xa.1.1 xa.1.2, hull_const hne (fun t _ => place_own _ t.1)]
   have hh : hiddenP s (a : Int) (s.2.2.1.getD a sn0).1 = (2, 0, ()) := by
    rw [hidden_ok hs ht ha xa.1.1 xa.1.2, (sett_never hne).2 fun t _ => ?_]
    rw [place_own]
    unfold farP
    exact dec_f (by omega)
   rw [L31, L33, hw, hh, L39]
   simp only [Option.bind_some, bne_self_eq_false, cond_false]
   rw [spSelf]
   simp only [Bool.not_true, cond_false]
   by_cases hab : a = b
   ·rw [bq (show (a : Int) = (b : Int) by omega)]
    exact awake_end rfl
   ·rw [bqf (show (a : Int) ≠ (b : Int) by omega), L23, L31, same_ok hs ht ha hb hab, where_ok hs ht ha xb.1.1 xb.1.2]
    simp only [cond_false, Option.bind_some, bne_self_eq_false]
    obtain ⟨⟨t1, m1, e1⟩, t2, m2, e2⟩ := hull_map_at (f := fun t : Tr => placeP (s.2.2.1.getD a sn0) t.1 (s.2.2.1.getD b sn0).1) hne
    have ok : ∀ t ∈ refL s, -570 ≤ placeP (s.2.2.1.getD a sn0) t.1 (s.2.2.1.getD b sn0).1 ∧ placeP (s.2.2.1.getD a sn0) t.1 (s.2.2.1.getD b sn0).1 ≤ 570 := fun t hm => by
     have rb := (refT_ok hs hm).rb.at (s.2.2.1.getD a sn0).2.1.toNat
     have hq := mul_bd30 rb.1 rb.2 (show -30 ≤ (s.2.2.1.getD b sn0).1 - (s.2.2.1.getD a sn0).1 by omega) (by omega)
     unfold placeP
     omega
    have o1 := ok t1 m1
    have o2 := ok t2 m2
    have hcan : sett (fun t => t.2.1.getD a 0 == t.2.1.getD b 0) (refL s) = 1 → ∀ t ∈ refL s, farP (placeP (s.2.2.1.getD a sn0) t.1 (s.2.2.1.getD b sn0).1 - (s.2.2.1.getD b sn0).2.2.1) s.2.1 = false := fun h t hm => by
     have h := sett_must.1 h t hm
     have hc := (mem_refL.1 hm).fits a b ha hb hab (eq_of_beq h)
     rw [canP_eq, Bool.and_eq_true, Bool.not_eq_true'] at hc
     exact hc.2
    rw [← e1, ← e2]
    rw [L55, L55, show notIn (-600) 600 (placeP (s.2.2.1.getD a sn0) t1.1 (s.2.2.1.getD b sn0).1) = false from notIn_f.2 (by omega), show notIn (-600) 600 (placeP (s.2.2.1.getD a sn0) t2.1 (s.2.2.1.getD b sn0).1) = false from notIn_f.2 (by omega)]
    simp only [Bool.not_false, Bool.not_true, cond_false, Option.bind_some]
    by_cases hm : sett (fun t => t.2.1.getD a 0 == t.2.1.getD b 0) (refL s) = 1
    ·rw [nbq hm, L56 _ _ _ (by omega) (by omega) hoff.1 (by omega), L56 _ _ _ (by omega) (by omega) hoff.1 (by omega), hcan hm t1 m1, hcan hm t2 m2]
     simp only [Bool.not_false, cond_true, cond_false, Option.bind_some]
     exact awake_end rfl
    ·rw [nbqf hm]
     exact awake_end rfl
end Go.Proofs.Ytkhhbpocmmmnmaa
