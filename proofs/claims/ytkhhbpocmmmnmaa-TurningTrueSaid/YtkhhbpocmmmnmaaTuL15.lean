/- What the ghost comes to: law 15. Conditions: none (equations, each by computation). -/
import Derived.Test.YtkhhbpocmmmnmaaTuH
import Derived.Test.YtkhhbpocmmmnmaaTuL9
namespace Go.Proofs.Ytkhhbpocmmmnmaa
open Go Go.Gh Go.Proofs
def S15 : List Gh.Spec := [{ key := (0, 15, 12, 1), frs := [{ fn := 15, n := 128, regs := [(2, (.ptr 150002 [])), (7, (.ptr 150007 [])), (12, (.dat (.int .i64)))], round := none, defers := [] }], heap := [(150002, .box (.agg [(.dat (.slice tSp)), (.dat (.int .i64)), (.dat (.slice tSn)), .nilsl]) false), (150007, .box (.agg [(.dat (.slice tSp)), (.dat (.int .i64)), (.dat (.slice tSn)), .nilsl]) false)] }, { key := (0, 15, 15, 1), frs := [{ fn := 15, n := 128, regs := [(2, (.ptr 150002 [])), (7, (.ptr 150007 [])), (12, (.dat (.int .i64))), (13, (.dat (.int .i64)))], round := none, defers := [] }], heap := [(150002, .box (.agg [(.dat (.slice tSp)), (.dat (.int .i64)), (.dat (.slice tSn)), .nilsl]) false), (150007, .box (.agg [(.dat (.slice tSp)), (.dat (.int .i64)), (.dat (.slice tSn)), .nilsl]) false)] }]
noncomputable def K15_0 : Kept := { todos := [[.inLoop (cAt Try.f15 [1, 1, 1, 1, 1, 1, 1, 1, 0, 1, 0, 0]), .inBlock 0, .code (cAt Try.f15 [1, 1, 1, 1, 1, 1, 1, 1, 1])]], cs := [noCodes, noCodes] }
noncomputable def K15_1 : Kept := { todos := [[.inLoop (cAt Try.f15 [1, 1, 1, 1, 1, 1, 1, 1, 0, 1, 0, 0, 1, 0, 0, 1, 0, 0]), .inBlock 2, .inBlock 1, .code (cAt Try.f15 [1, 1, 1, 1, 1, 1, 1, 1, 0, 1, 0, 0, 1, 1]), .inLoop (cAt Try.f15 [1, 1, 1, 1, 1, 1, 1, 1, 0, 1, 0, 0]), .inBlock 0, .code (cAt Try.f15 [1, 1, 1, 1, 1, 1, 1, 1, 1])]], cs := [noCodes, noCodes] }
noncomputable def F15 : denL [tSu, (.int .u8)] → Option (denL [.bool]) := ghost cx41 S15 6000 15 [tSu, (.int .u8)] [.bool]
noncomputable abbrev T15_0 (t12 : Int) (h0_0 : (List Sp)) (h0_1 : Int) (h0_2 : (List Sn)) (h1_0 : (List Sp)) (h1_1 : Int) (h1_2 : (List Sn)) (f : Nat) : Option (denL [.bool]) := iter cx41 S15 [.bool] 6000 f 0 K15_0 ((((), ((), (t12, ()))), ()), ((h0_0, (h0_1, (h0_2, ((), ())))), ((h1_0, (h1_1, (h1_2, ((), ())))), ())))
noncomputable abbrev T15_1 (t12 : Int) (t13 : Int) (h0_0 : (List Sp)) (h0_1 : Int) (h0_2 : (List Sn)) (h1_0 : (List Sp)) (h1_1 : Int) (h1_2 : (List Sn)) (f : Nat) : Option (denL [.bool]) := iter cx41 S15 [.bool] 6000 f 1 K15_1 ((((), ((), (t12, (t13, ())))), ()), ((h0_0, (h0_1, (h0_2, ((), ())))), ((h1_0, (h1_1, (h1_2, ((), ())))), ())))
theorem R15_0 (t12 : Int) (h0_0 : (List Sp)) (h0_1 : Int) (h0_2 : (List Sn)) (h1_0 : (List Sp)) (h1_1 : Int) (h1_2 : (List Sn)) {y : denL [.bool]} (h : Ev fun k =>
 (bif decide (t12 < (↑(List.length h0_2) : Int)) then T15_1 t12 0 h0_0 h0_1 h0_2 h1_0 h1_1 h1_2 k else Option.bind (F25 ()) fun (y : Bool × Unit) => some (y.1, ()) : Option (denL [.bool])) = some y) : Ev fun k => T15_0 t12 h0_0 h0_1 h0_2 h1_0 h1_1 h1_2 k = some y := iter_ev (Ev.eq (fun _ => by kernel_rfl) h)
theorem R15_1 (t12 : Int) (t13 : Int) (h0_0 : (List Sp)) (h0_1 : Int) (h0_2 : (List Sn)) (h1_0 : (List Sp)) (h1_1 : Int) (h1_2 : (List Sn)) {y : denL [.bool]} (h : Ev fun k =>
 (bif decide (t13 < t12) then Option.bind (F23 ((h0_0, h0_1, h0_2, [], ()), t12, t13, ())) fun (y : Int × Int × Unit) => Option.bind (F23 ((h1_0, h1_1, h1_2, [], ()), t12, t13, ())) fun (y_1 : Int × Int × Unit) => bif y.2.1 != 0 then some (false, ()) else bif y_1.2.1 != 0 then some (false, ()) else bif y.1 != 2 then bif y_1.1 == 2 then some (false, ()) else bif y.1 == 1 then some (false, ()) else bif y_1.1 == 1 then some (false, ()) else T15_1 t12 (IntKind.wrap IntKind.i64 (t13 + 1)) h0_0 h0_1 h0_2 h1_0 h1_1 h1_2 k else bif y.1 == 1 then some (false, ()) else bif y_1.1 == 1 then some (false, ()) else T15_1 t12 (IntKind.wrap IntKind.i64 (t13 + 1)) h0_0 h0_1 h0_2 h1_0 h1_1 h1_2 k else T15_0 (IntKind.wrap IntKind.i64 (t12 + 1)) h0_0 h0_1 h0_2 h1_0 h1_1 h1_2 k : Option (denL [.bool])) = some y) : Ev fun k => T15_1 t12 t13 h0_0 h0_1 h0_2 h1_0 h1_1 h1_2 k = some y := iter_ev (Ev.eq (fun _ => by kernel_rfl) h)
theorem N15 (t0 : Su) (t1 : Int) {y : denL [.bool]} (h : Ev fun k =>
 (Option.bind (F47 ((t0.1, t0.2.1, t0.2.2.1, [], ()), ())) fun (y : Bool × Unit) => bif !y.1 then Option.bind (F26 ((t0.1, t0.2.1, t0.2.2.1, [], ()), ())) fun (y : Sp × Int × Unit) => bif y.2.1 != 0 then Option.bind (F25 ()) fun (y : Bool × Unit) => some (y.1, ()) else some (false, ()) else Option.bind (F26 ((t0.1, t0.2.1, t0.2.2.1, [], ()), ())) fun (y : Sp × Int × Unit) => Option.bind (F26 ((t0.1, if IntKind.wrap IntKind.i64 (t0.2.1 + Int.tmod (IntKind.wrap IntKind.i64 t1) 4) < 9 then IntKind.wrap IntKind.i64 (t0.2.1 + Int.tmod (IntKind.wrap IntKind.i64 t1) 4) else 9, t0.2.2.1, [], ()), ())) fun (y_1 : Sp × Int × Unit) => bif y.2.1 != 0 then some (false, ()) else bif y_1.2.1 != 0 then some (false, ()) else bif decide (y_1.1.1 > y.1.1) then some (false, ()) else bif y_1.1.2.1 != y.1.2.1 then some (false, ()) else bif y.1.2.1 != (↑(List.length t0.2.2.1) : Int) then some (false, ()) else T15_0 0 t0.1 t0.2.1 t0.2.2.1 t0.1 (if IntKind.wrap IntKind.i64 (t0.2.1 + Int.tmod (IntKind.wrap IntKind.i64 t1) 4) < 9 then IntKind.wrap IntKind.i64 (t0.2.1 + Int.tmod (IntKind.wrap IntKind.i64 t1) 4) else 9) t0.2.2.1 k : Option (denL [.bool])) = some y) : F15 (t0, (t1, ())) = some y := ghost_eq (Ev.eq (fun _ => by kernel_rfl) h)
end Go.Proofs.Ytkhhbpocmmmnmaa
/- What the ghost comes to: law 8. Conditions: none (equations, each by computation). -/
namespace Go.Proofs.Ytkhhbpocmmmnmaa
open Go Go.Gh Go.Proofs
def S8 : List Gh.Spec := [{ key := (0, 8, 12, 1), frs := [{ fn := 8, n := 196, regs := [(2, (.dat (.int .u8))), (9, (.ptr 80009 [])), (10, (.ptr 80010 [])), (16, (.dat (.int .i64)))], round := none, defers := [] }], heap := [(80009, .box (.dat tSu) false), (80010, .box (.dat (.struct [(.slice (.int .i64)), (.slice (.int .i64))])) false)] }, { key := (0, 8, 19, 1), frs := [{ fn := 8, n := 196, regs := [(9, (.ptr 80009 [])), (10, (.ptr 80010 [])), (19, (.dat (.int .i64))), (20, (.dat (.int .i64)))], round := none, defers := [] }], heap := [(80009, .box (.dat tSu) false), (80010, .box (.dat (.struct [(.slice (.int .i64)), (.slice (.int .i64))])) false)] }, { key := (0, 8, 27, 1), frs := [{ fn := 8, n := 196, regs := [(9, (.ptr 80009 [])), (10, (.ptr 80010 [])), (19, (.dat (.int .i64))), (20, (.dat (.int .i64))), (26, (.dat (.int .i64)))], round := none, defers := [] }], heap := [(80009, .box (.dat tSu) false), (80010, .box (.dat (.struct [(.slice (.int .i64)), (.slice (.int .i64))])) false)] }]
noncomputable def K8_0 : Kept := { todos := [[.inLoop (cAt Try.f8 [1, 1, 1, 1, 1, 1, 1, 0, 1, 0, 0]), .inBlock 0, .code (cAt Try.f8 [1, 1, 1, 1, 1, 1, 1, 1])]], cs := [noCodes, noCodes] }
noncomputable def K8_1 : Kept := { todos := [[.inLoop (cAt Try.f8 [1, 1, 1, 1, 1, 1, 1, 1, 1, 0, 1, 0, 0]), .inBlock 2, .code (cAt Try.f8 [1, 1, 1, 1, 1, 1, 1, 1, 1, 1])]], cs := [noCodes, noCodes] }
noncomputable def K8_2 : Kept := { todos := [[.inLoop (cAt Try.f8 [1, 1, 1, 1, 1, 1, 1, 1, 1, 0, 1, 0, 0, 1, 0, 0, 1, 1, 1, 1, 1, 0, 0]), .inBlock 4, .inBlock 3, .code (cAt Try.f8 [1, 1, 1, 1, 1, 1, 1, 1, 1, 0, 1, 0, 0, 1, 1]), .inLoop (cAt Try.f8 [1, 1, 1, 1, 1, 1, 1, 1, 1, 0, 1, 0, 0]), .inBlock 2, .code (cAt Try.f8 [1, 1, 1, 1, 1, 1, 1, 1, 1, 1])]], cs := [noCodes, noCodes] }
noncomputable def F8 : denL [tSu, (.int .u16), (.int .u8)] → Option (denL [.bool]) := ghost cx41 S8 6000 8 [tSu, (.int .u16), (.int .u8)] [.bool]
noncomputable abbrev T8_0 (t2 : Int) (t16 : Int) (h0 : Su) (h1 : ((List Int) × (List Int) × Unit)) (f : Nat) : Option (denL [.bool]) := iter cx41 S8 [.bool] 6000 f 0 K8_0 (((t2, ((), ((), (t16, ())))), ()), (h0, (h1, ())))
noncomputable abbrev T8_1 (t19 : Int) (t20 : Int) (h0 : Su) (h1 : ((List Int) × (List Int) × Unit)) (f : Nat) : Option (denL [.bool]) := iter cx41 S8 [.bool] 6000 f 1 K8_1 ((((), ((), (t19, (t20, ())))), ()), (h0, (h1, ())))
noncomputable abbrev T8_2 (t19 : Int) (t20 : Int) (t26 : Int) (h0 : Su) (h1 : ((List Int) × (List Int) × Unit)) (f : Nat) : Option (denL [.bool]) := iter cx41 S8 [.bool] 6000 f 2 K8_2 ((((), ((), (t19, (t20, (t26, ()))))), ()), (h0, (h1, ())))
theorem R8_0 (t2 : Int) (t16 : Int) (h0 : Su) (h1 : ((List Int) × (List Int) × Unit)) {y : denL [.bool]} (h : Ev fun k =>
 (bif decide (t16 < (↑(List.length h0.1) : Int)) then Option.bind (F21 (h0, t16, ())) fun (y : Sp × Int × Unit) => bif y.2.1 != 0 then some (false, ()) else bif decide (0 ≤ t16) && decide (t16 < (↑(List.length h1.1) : Int)) then Option.bind (F42 (List.getD h1.1 (Int.toNat t16) 0, y.1, ())) fun (y : Bool × Unit) => bif !y.1 then some (false, ()) else T8_0 t2 (IntKind.wrap IntKind.i64 (t16 + 1)) h0 h1 k else none else T8_1 (Int.tmod (IntKind.wrap IntKind.i64 t2) 31) 0 h0 h1 k : Option (denL [.bool])) = some y) : Ev fun k => T8_0 t2 t16 h0 h1 k = some y := iter_ev (Ev.eq (fun _ => by kernel_rfl) h)
theorem R8_1 (t19 : Int) (t20 : Int) (h0 : Su) (h1 : ((List Int) × (List Int) × Unit)) {y : denL [.bool]} (h : Ev fun k =>
 (bif decide (t20 < (↑(List.length h0.2.2.1) : Int)) then bif decide (0 ≤ t20) && decide (t20 < (↑(List.length h0.2.2.1) : Int)) then Option.bind (F44 (List.getD h0.2.2.1 (Int.toNat t20) (0, 0, 0, ()), h1.1, t19, ())) fun (y : Int × Unit) => Option.bind (F31 (h0, t20, t19, ())) fun (y_1 : Sp × Int × Unit) => Option.bind (F33 (h0, t20, t19, ())) fun (y_2 : Int × Int × Unit) => bif y_1.2.1 != 0 then some (false, ()) else bif y_2.2.1 != 0 then some (false, ()) else Option.bind (F42 (y.1, y_1.1, ())) fun (y_3 : Bool × Unit) => bif !y_3.1 then some (false, ()) else Option.bind (F46 (y.1, ())) fun (y : Bool × Unit) => Option.bind (F45 (y_2.1, y.1, ())) fun (y : Bool × Unit) => bif y.1 then some (false, ()) else T8_2 t19 t20 0 h0 h1 k else none else Option.bind (F25 ()) fun (y : Bool × Unit) => some (y.1, ()) : Option (denL [.bool])) = some y) : Ev fun k => T8_1 t19 t20 h0 h1 k = some y := iter_ev (Ev.eq (fun _ => by kernel_rfl) h)
theorem R8_2 (t19 : Int) (t20 : Int) (t26 : Int) (h0 : Su) (h1 : ((List Int) × (List Int) × Unit)) {y : denL [.bool]} (h : Ev fun k =>
 (bif decide (t26 < t20) then Option.bind (F23 (h0, t20, t26, ())) fun (y : Int × Int × Unit) => bif y.2.1 != 0 then some (false, ()) else bif decide (0 ≤ t20) && decide (t20 < (↑(List.length h1.2.1) : Int)) then bif decide (0 ≤ t26) && decide (t26 < (↑(List.length h1.2.1) : Int)) then Option.bind (F45 (y.1, List.getD h1.2.1 (Int.toNat t20) 0 == List.getD h1.2.1 (Int.toNat t26) 0, ())) fun (y : Bool × Unit) => bif y.1 then some (false, ()) else T8_2 t19 t20 (IntKind.wrap IntKind.i64 (t26 + 1)) h0 h1 k else none else none else T8_1 t19 (IntKind.wrap IntKind.i64 (t20 + 1)) h0 h1 k : Option (denL [.bool])) = some y) : Ev fun k => T8_2 t19 t20 t26 h0 h1 k = some y := iter_ev (Ev.eq (fun _ => by kernel_rfl) h)
theorem N8 (t0 : Su) (t1 : Int) (t2 : Int) {y : denL [.bool]} (h : Ev fun k =>
 (Option.bind (F40 (t0, ())) fun (y : Bool × Unit) => bif !y.1 then Option.bind (F35 (t0, ())) fun (y : List Int × Int × Unit) => bif y.2.1 != 0 then Option.bind (F25 ()) fun (y : Bool × Unit) => some (y.1, ()) else some (false, ()) else Option.bind (F41 (t0, t1, ())) fun (y : Su × (List Int × List Int × Unit) × Bool × Unit) => Option.bind (F35 (y.1, ())) fun (y_1 : List Int × Int × Unit) => bif !y.2.2.1 then bif y_1.2.1 == 8 then bif (↑(List.length y_1.1) : Int) == 0 then Option.bind (F25 ()) fun (y : Bool × Unit) => some (y.1, ()) else some (false, ()) else some (false, ()) else Option.bind (F26 (y.1, ())) fun (y_2 : Sp × Int × Unit) => bif y_1.2.1 != 0 then some (false, ()) else bif y_2.2.1 != 0 then some (false, ()) else bif decide ((↑(List.length y_1.1) : Int) > 0) then some (false, ()) else Option.bind (F43 (y.2.1.2.1, ())) fun (y_3 : Int × Unit) => Option.bind (F42 (y_3.1, y_2.1, ())) fun (y_4 : Bool × Unit) => bif !y_4.1 then some (false, ()) else T8_0 t2 0 y.1 y.2.1 k : Option (denL [.bool])) = some y) : F8 (t0, (t1, (t2, ()))) = some y := ghost_eq (Ev.eq (fun _ => by kernel_rfl) h)
end Go.Proofs.Ytkhhbpocmmmnmaa
/- Laws 15 and 8: less exact; told as a truth has it. Conditions: as each lemma states. -/
namespace Go.Proofs.Ytkhhbpocmmmnmaa
open Go Go.Gh Go.Proofs
def ownG (n : Nat) : List Int := (List.range n).map fun i : Nat => (i : Int)
theorem own_at {n i : Nat} (h : i < n) : (ownG n).getD i 0 = (i : Int) := by
 rw [getD_lt (by simp [ownG]; exact h)]
 simp [ownG]
theorem own_gt (n : Nat) : GT n (ownG n) := ⟨by simp [ownG], fun j hj => ⟨j, Nat.le_refl _, own_at hj, own_at hj⟩⟩
theorem own_many (n : Nat) : manyP n (ownG n) = n := by
 unfold manyP
 have : (List.range n).filter (fun i => (ownG n).getD i 0 == (i : Int)) = List.range n := by
  rw [List.filter_eq_self]
  intro i hi
  exact bq (own_at (List.mem_range.1 hi))
 rw [this, List.length_range]
theorem own_truth {s : Su} (h : s.2.2.2.1 = []) {r : List Int} (hr : RT s s.1.length r) : Truth s none' r (ownG s.2.2.1.length) :=
 ⟨hr, own_gt _, soP_iff.2 fun i hi => absurd hi (by rw [h]; simp), fun a b ha hb hab he => by
   rw [own_at ha, own_at hb] at he
   omega⟩
theorem far_mono {n m m' : Int} (h0 : 0 ≤ m) (h1 : m ≤ m') (h2 : m' ≤ 90) (h : farP n m = false) : farP n m' = false := by
 have a := near_turn (n := n) h0 (by omega)
 have b := near_turn (n := n) (m := m') (by omega) h2
 rw [h] at a
 have a : notIn (0 - m) m (turnP n) = false := by simpa using a
 rw [notIn_f] at a
 have c : notIn (0 - m') m' (turnP n) = false := notIn_f.2 (by omega)
 rw [c] at b
 simpa using b.symm
theorem can_mono {s q : Su} (e3 : q.2.2.1 = s.2.2.1) (h0 : 0 ≤ s.2.1) (h1 : s.2.1 ≤ q.2.1) (h2 : q.2.1 ≤ 90) {r : List Int} {a b : Nat} (h : canP s r a b = true) : canP q r a b = true := by
 rw [canP_eq, Bool.and_eq_true, Bool.and_eq_true, Bool.not_eq_true'] at h
 rw [canP_eq, e3, h.1.1, h.1.2, far_mono h0 h1 h2 h.2]
 rfl
theorem hi_all {s : Su} (hs : VS s) (ht : trP s ≠ []) (h : s.2.2.2.1 = []) : (hullL ((refL s).map fun t => (manyP s.2.2.1.length t.2.1 : Int))).2.1 = (s.2.2.1.length : Int) := by
 have hne := refL_ne hs ht
 obtain ⟨_, t2, m2, e2⟩ := hull_map_at (f := fun t : Tr => (manyP s.2.2.1.length t.2.1 : Int)) hne
 have ho := own_truth h (mem_refL.1 m2).rt
 have := (hull_map_le (L := refL s) (f := fun t : Tr => (manyP s.2.2.1.length t.2.1 : Int)) ((mem_refL (t := (t2.1, ownG s.2.2.1.length, ()))).2 ho)).2
 have e : manyP s.2.2.1.length (ownG s.2.2.1.length) = s.2.2.1.length := own_many _
 rw [e] at this
 have h3 := manyP_le s.2.2.1.length t2.2.1
 omega
theorem not_must {s : Su} (hs : VS s) (ht : trP s ≠ []) (h : s.2.2.2.1 = []) {a b : Nat} (ha : a < s.2.2.1.length) (hb : b < s.2.2.1.length) (hab : a ≠ b) : sett (fun t => t.2.1.getD a 0 == t.2.1.getD b 0) (refL s) ≠ 1 := fun hm => by
 have hne := refL_ne hs ht
 obtain ⟨_, t2, m2, _⟩ := hull_map_at (f := fun t : Tr => (manyP s.2.2.1.length t.2.1 : Int)) hne
 have ho := own_truth h (mem_refL.1 m2).rt
 have := eq_of_beq (sett_must.1 hm (t2.1, ownG s.2.2.1.length, ()) ((mem_refL (t := (t2.1, ownG s.2.2.1.length, ()))).2 ho))
 have : (ownG s.2.2.1.length).getD a 0 = (ownG s.2.2.1.length).getD b 0 := this
 rw [own_at ha, own_at hb] at this
 omega
theorem L15 (s : Su) (x : Int) (hx : 0 ≤ x ∧ x ≤ 255) : F15 ((s, x, ()) : Su × Int × Unit) = some (true, ()) := by
 refine N15 _ _ ?_
 rw [show ((s.1, s.2.1, s.2.2.1, [], ()) : Su) = plainP s from rfl, L47]
 simp only [Option.bind_some]
 cases hv : someP (plainP s) with
 | false =>
  simp only [Bool.not_false, cond_true]
  rw [L26]
  simp only [Option.bind_some]
  have he : (groupsP (plainP s)).2.1 ≠ 0 := by
   have := errP_ne hv [] ne0
   unfold groupsP
   rw [if_neg this]
   exact this
  rw [nbqf he]
  exact awake_end rfl
 | true =>
  obtain ⟨hs, ht⟩ := someP_t.1 hv
  have hoff : 0 ≤ s.2.1 ∧ s.2.1 ≤ 9 := hs.off
  have h5 : s.2.2.1.length ≤ 5 := hs.n5
  simp only [Bool.not_true, cond_false]
  obtain ⟨n, rfl⟩ := Int.eq_ofNat_of_zero_le hx.1
  have hm := Nat.mod_lt n (show 0 < 4 by omega)
  rw [wrap_id (x := (n : Int)) (by omega) (by omega), show Int.tmod (n : Int) 4 = ((n % 4 : Nat) : Int) by rw [Int.tmod_eq_emod_of_nonneg (by omega)]; simp, wrap_id (x := s.2.1 + ((n % 4 : Nat) : Int)) (by omega) (by omega)]
  have hO : s.2.1 ≤ (if s.2.1 + ((n % 4 : Nat) : Int) < 9 then s.2.1 + ((n % 4 : Nat) : Int) else 9) ∧ (if s.2.1 + ((n % 4 : Nat) : Int) < 9 then s.2.1 + ((n % 4 : Nat) : Int) else 9) ≤ 9 := by
   split <;> omega
  generalize (if s.2.1 + ((n % 4 : Nat) : Int) < 9 then s.2.1 + ((n % 4 : Nat) : Int) else 9) = o at hO ⊢
  have hq : VS (s.1, o, s.2.2.1, [], ()) := ⟨hs.b1, hs.b3, hs.belts, ⟨by show 0 ≤ o; omega, hO.2⟩, hs.n5, hs.seen, by simp, fun i hi => absurd hi (by simp)⟩
  have hsub : ∀ t ∈ refL (plainP s), t ∈ refL ((s.1, o, s.2.2.1, [], ()) : Su) := fun t hm => by
   have h := mem_refL.1 hm
   exact mem_refL.2 ⟨⟨h.rt.len, h.rt.bd, h.rt.fall⟩, ⟨h.gt.len, h.gt.low⟩, soP_iff.2 fun i hi => absurd hi (by simp), fun a b ha hb hab he => can_mono (s := plainP s) (q := (s.1, o, s.2.2.1, [], ())) rfl hoff.1 hO.1 (by show o ≤ 90; omega) (h.fits a b ha hb hab he)⟩
  have hne := refL_ne hs ht
  have hqne : refL ((s.1, o, s.2.2.1, [], ()) : Su) ≠ [] := fun h => by
   cases hL : refL (plainP s) with
   | nil => exact hne hL
   | cons t L =>
    have := hsub t (by rw [hL]; simp)
    rw [h] at this
    cases this
  have hqt : trP ((s.1, o, s.2.2.1, [], ()) : Su) ≠ [] := fun h => hqne ((refL_nil hq).2 h)
  have hiP := hi_all hs ht rfl
  have hiQ := hi_all hq hqt rfl
  have hlo : (hullL ((refL ((s.1, o, s.2.2.1, [], ()) : Su)).map fun t => (manyP s.2.2.1.length t.2.1 : Int))).1 ≤ (hullL ((refL (plainP s)).map fun t => (manyP s.2.2.1.length t.2.1 : Int))).1 := by
   obtain ⟨⟨t1, m1, e1⟩, _⟩ := hull_map_at (f := fun t : Tr => (manyP s.2.2.1.length t.2.1 : Int)) hne
   have := (hull_map_le (f := fun t : Tr => (manyP s.2.2.1.length t.2.1 : Int)) (hsub t1 m1)).1
   omega
  rw [L26, L26, groups_ok hs ht, groups_ok hq hqt]
  simp only [Option.bind_some, bne_self_eq_false, cond_false]
  rw [show (plainP s).2.2.1.length = s.2.2.1.length from rfl] at hiP ⊢
  have hiQ : (hullL ((refL ((s.1, o, s.2.2.1, [], ()) : Su)).map fun t => (manyP s.2.2.1.length t.2.1 : Int))).2.1 = (s.2.2.1.length : Int) := hiQ
  rw [dec_f (show ¬ (hullL ((refL ((s.1, o, s.2.2.1, [], ()) : Su)).map fun t => (manyP s.2.2.1.length t.2.1 : Int))).1 > (hullL ((refL (plainP s)).map fun t => (manyP s.2.2.1.length t.2.1 : Int))).1 by omega), hiP, nbq hiQ, iSelf]
  simp only [cond_false]
  have inner : ∀ (a : Nat), a < s.2.2.1.length → (Ev fun k => T15_0 ((a + 1 : Nat) : Int) s.1 s.2.1 s.2.2.1 s.1 o s.2.2.1 k = some (true, ())) → ∀ (d b : Nat), b + d = a → Ev fun k => T15_1 a b s.1 s.2.1 s.2.2.1 s.1 o s.2.2.1 k = some (true, ()) := by
   intro a ha hnext d
   induction d with
   | zero =>
    intro b hb
    refine R15_1 _ _ _ _ _ _ _ _ ?_
    rw [dec_f (by omega), wrap_succ (n := a) (by omega)]
    exact hnext
   | succ d ih =>
    intro b hb
    have ih := ih (b + 1) (by omega)
    refine R15_1 _ _ _ _ _ _ _ _ ?_
    have sp := same_ok hs ht (a := a) (c := b) ha (show b < s.2.2.1.length by omega) (by omega)
    have sq := same_ok hq hqt (a := a) (c := b) ha (show b < s.2.2.1.length by omega) (by omega)
    have np := not_must hs ht rfl (a := a) (b := b) ha (show b < s.2.2.1.length by omega) (by omega)
    have nq := not_must hq hqt rfl (a := a) (b := b) ha (show b < s.2.2.1.length by omega) (by omega)
    have imp : sett (fun t => t.2.1.getD a 0 == t.2.1.getD b 0) (refL ((s.1, o, s.2.2.1, [], ()) : Su)) = 2 → sett (fun t => t.2.1.getD a 0 == t.2.1.getD b 0) (refL (plainP s)) = 2 := fun h => (sett_never hne).2 fun t hm => (sett_never hqne).1 h t (hsub t hm)
    rw [dec_t (show (b : Int) < (a : Int) by omega), L23, L23, show ((s.1, s.2.1, s.2.2.1, [], ()) : Su) = plainP s from rfl, sp, sq, wrap_succ (n := b) (by omega)]
    simp only [cond_true, Option.bind_some, bne_self_eq_false, cond_false]
    rw [bqf np, bqf nq]
    by_cases h2 : sett (fun t => t.2.1.getD a 0 == t.2.1.getD b 0) (refL (plainP s)) = 2
    ·rw [nbq h2]
     exact ih
    ·rw [nbqf h2, bqf (fun h => h2 (imp h))]
     exact ih
  have outer : ∀ (c a : Nat), a + c = s.2.2.1.length → Ev fun k => T15_0 a s.1 s.2.1 s.2.2.1 s.1 o s.2.2.1 k = some (true, ()) := by
   intro c
   induction c with
   | zero =>
    intro a ha
    refine R15_0 _ _ _ _ _ _ _ ?_
    rw [dec_f (by omega)]
    exact awake_end rfl
   | succ c ih =>
    intro a ha
    refine R15_0 _ _ _ _ _ _ _ ?_
    rw [dec_t (show (a : Int) < (s.2.2.1.length : Int) by omega)]
    exact inner a (by omega) (ih (a + 1) (by omega)) a 0 (Nat.zero_add _)
  exact outer s.2.2.1.length 0 (Nat.zero_add _)
theorem with_vs {s : Su} (hs : VS s) (g : List Int) : VS (withP s g) := by
 refine ⟨hs.b1, hs.b3, hs.belts, hs.off, hs.n5, hs.seen, by show (s.2.2.2.1.map (toldP g)).length ≤ 3; rw [List.length_map]; exact hs.t3, fun i hi => ?_⟩
 have hi : i < (s.2.2.2.1.map (toldP g)).length := hi
 rw [List.length_map] at hi
 have : (withP s g).2.2.2.1.getD i tl0 = toldP g (s.2.2.2.1.getD i tl0) := by
  show (s.2.2.2.1.map (toldP g)).getD i tl0 = _
  rw [getD_lt (by rw [List.length_map]; exact hi), getD_lt hi, List.getElem_map]
 rw [this]
 exact hs.told i hi
theorem with_truth {s : Su} {r g : List Int} (h : Truth (plainP s) none' r g) : Truth (withP s g) none' r g := by
 refine ⟨⟨h.rt.len, h.rt.bd, h.rt.fall⟩, ⟨h.gt.len, h.gt.low⟩, soP_iff.2 fun i hi _ => ?_, h.fits⟩
 have hi : i < (s.2.2.2.1.map (toldP g)).length := hi
 rw [List.length_map] at hi
 have : (withP s g).2.2.2.1.getD i tl0 = toldP g (s.2.2.2.1.getD i tl0) := by
  show (s.2.2.2.1.map (toldP g)).getD i tl0 = _
  rw [getD_lt (by rw [List.length_map]; exact hi), getD_lt hi, List.getElem_map]
 rw [this]
 unfold toldP
 rw [beq_iff_eq]
theorem wrong_nil {s : Su} (hs : VS s) (hne : refL s ≠ []) : wrongP s = ([], 0, ()) := by
 have hok : okW s [] = true := by
  rw [okW_ref hs (fun x hx => by cases hx)]
  exact dec_t hne
 rcases wrong_best ((chkP_ok s).2 hs) with ⟨r, e, hb⟩ | ⟨e, hn⟩
 ·rw [e]
  have : r = [] := by
   cases r with
   | nil => rfl
   | cons x r => exact absurd (.inl (by simp)) (hb.first [] ⟨List.nil_sublist _, hok⟩)
  rw [this]
 ·rw [hn [] (List.nil_sublist _)] at hok
  cases hok
theorem wrong_all {s : Su} (hs : VS s) (hn : refL (plainP s) = []) : wrongP s = ([], 8, ()) := by
 rcases wrong_best ((chkP_ok s).2 hs) with ⟨r, e, hb⟩ | ⟨e, _⟩
 ·have hr := hb.is.2
  rw [okW_ref hs fun x hx => (idx_in s x (hb.is.1.subset hx)).1, decide_eq_true_eq] at hr
  exfalso
  cases hL : refT s (inL r) with
  | nil => exact hr hL
  | cons t L =>
   have h := mem_refT.1 (show t ∈ refT s (inL r) by rw [hL]; simp)
   have : t ∈ refL (plainP s) := mem_refL.2 ⟨⟨h.rt.len, h.rt.bd, h.rt.fall⟩, ⟨h.gt.len, h.gt.low⟩, soP_iff.2 fun i hi => absurd hi (by simp [plainP]), h.fits⟩
   rw [hn] at this
   cases this
 ·exact e
theorem deny_not {q : Tr → Bool} {L : List Tr} {t : Tr} (h : t ∈ L) : deniesP (sett q L) (q t) = false := by
 have hL : L ≠ [] := fun e => by rw [e] at h; cases h
 unfold deniesP
 by_cases h1 : sett q L = 1
 ·rw [sett_must.1 h1 t h, bqf (show sett q L ≠ 2 by omega)]
  simp
 ·rw [bqf h1]
  by_cases h2 : sett q L = 2
  ·rw [(sett_never hL).1 h2 t h]; simp
  ·rw [bqf h2]; rfl
theorem L8 (s : Su) (x y : Int) (hx : 0 ≤ x ∧ x ≤ 65535) (hy : 0 ≤ y ∧ y ≤ 255) : F8 ((s, x, y, ()) : Su × Int × Int × Unit) = some (true, ()) := by
 obtain ⟨m, rfl⟩ := Int.eq_ofNat_of_zero_le hx.1
 obtain ⟨w, rfl⟩ := Int.eq_ofNat_of_zero_le hy.1
 refine N8 _ _ _ ?_
 rw [L40]
 simp only [Option.bind_some]
 cases hv : validP s with
 | false =>
  have h0 := validP_f hv
  simp only [Bool.not_false, cond_true]
  have hw : wrongP s = ([], (chkP s).2.2.1, ()) := if_neg h0
  rw [L35, hw]
  simp only [Option.bind_some]
  rw [nbqf h0]
  exact awake_end rfl
 | true =>
  have hs := validP_t.1 hv
  have h3 := hs.b3
  have h5 := hs.n5
  simp only [Bool.not_true, cond_false]
  rw [L41 hs m (by omega)]
  simp only [Option.bind_some]
  by_cases hr : refL (plainP s) = []
  ·rw [if_pos hr, L35, wrong_all hs hr]
   exact awake_end rfl
  ·have hpos := List.length_pos_iff.2 hr
   have hlt := Nat.mod_lt m hpos
   rw [if_neg hr]
   have hmem : (refL (plainP s)).getD (m % (refL (plainP s)).length) tr0 ∈ refL (plainP s) := by
    rw [getD_lt hlt]; exact List.getElem_mem hlt
   generalize (refL (plainP s)).getD (m % (refL (plainP s)).length) tr0 = t at hmem ⊢
   have hT := with_truth (mem_refL.1 hmem)
   have hdv := with_vs hs t.2.1
   have hm : t ∈ refL (withP s t.2.1) := mem_refL.2 hT
   have hdn : refL (withP s t.2.1) ≠ [] := fun e => by rw [e] at hm; cases hm
   have hdt : trP (withP s t.2.1) ≠ [] := fun e => hdn ((refL_nil hdv).2 e)
   have hgl : t.2.1.length = s.2.2.1.length := hT.gt.len
   have hrl : t.1.length = s.1.length := hT.rt.len
   have hrb := (refT_ok hdv hm).rb
   have e1 : (withP s t.2.1).1 = s.1 := rfl
   have e3 : (withP s t.2.1).2.2.1 = s.2.2.1 := rfl
   simp only
   rw [L35, wrong_nil hdv hdn, L26, groups_ok hdv hdt]
   simp only [Option.bind_some, Bool.not_true, cond_false, bne_self_eq_false]
   rw [show decide (((([] : List Int).length : Nat) : Int) > 0) = false from rfl, L43 t.2.1 (by omega)]
   simp only [cond_false, Option.bind_some]
   have hin := hull_map_le (f := fun t : Tr => (manyP s.2.2.1.length t.2.1 : Int)) hm
   rw [hgl, L42, e3, notIn_f.2 hin]
   simp only [Option.bind_some, Bool.not_false, Bool.not_true, cond_false]
   have hday := Nat.mod_lt w (show 0 < 31 by omega)
   have same : ∀ (a : Nat), a < s.2.2.1.length → (Ev fun k => T8_1 ((w % 31 : Nat) : Int) ((a + 1 : Nat) : Int) (withP s t.2.1) t k = some (true, ())) → ∀ (d b : Nat), b + d = a → Ev fun k => T8_2 ((w % 31 : Nat) : Int) a b (withP s t.2.1) t k = some (true, ()) := by
    intro a ha hnext d
    induction d with
    | zero =>
     intro b hb
     refine R8_2 _ _ _ _ _ ?_
     rw [dec_f (by omega), wrap_succ (n := a) (by omega)]
     exact hnext
    | succ d ih =>
     intro b hb
     have ih := ih (b + 1) (by omega)
     refine R8_2 _ _ _ _ _ ?_
     rw [dec_t (show (b : Int) < (a : Int) by omega), L23, same_ok hdv hdt (a := a) (c := b) (by rw [e3]; exact ha) (by rw [e3]; omega) (by omega), wrap_succ (n := b) (by omega), dec_t (show (0 : Int) ≤ (a : Int) by omega), dec_t (show (a : Int) < (t.2.1.length : Int) by omega), dec_t (show (0 : Int) ≤ (b : Int) by omega), dec_t (show (b : Int) < (t.2.1.length : Int) by omega), Int.toNat_natCast, Int.toNat_natCast]
     simp only [cond_true, Option.bind_some, bne_self_eq_false, cond_false, Bool.and_self]
     rw [L45, deny_not (q := fun t : Tr => t.2.1.getD a 0 == t.2.1.getD b 0) hm]
     exact ih
   have seen : ∀ (c a : Nat), a + c = s.2.2.1.length → Ev fun k => T8_1 ((w % 31 : Nat) : Int) a (withP s t.2.1) t k = some (true, ()) := by
    intro c
    induction c with
    | zero =>
     intro a ha
     refine R8_1 _ _ _ _ ?_
     rw [e3, dec_f (by omega)]
     exact awake_end rfl
    | succ c ih =>
     intro a ha
     have hlt : a < s.2.2.1.length := by omega
     have xa := hs.seen a hlt
     have hp := placeR_bd (x := s.2.2.1.getD a sn0) (day := ((w % 31 : Nat) : Int)) hrb xa.1 xa.2.2 (by omega)
     refine R8_1 _ _ _ _ ?_
     rw [e3, dec_t (show (a : Int) < (s.2.2.1.length : Int) by omega), dec_t (show (0 : Int) ≤ (a : Int) by omega), Int.toNat_natCast, show s.2.2.1.getD a (0, 0, 0, ()) = s.2.2.1.getD a sn0 from rfl, L44 _ _ _ hrb (by rw [hrl]; exact xa.2.1) xa.1 xa.2.2 (by omega), L31, L33, where_ok hdv hdt (a := a) (by rw [e3]; exact hlt) (by omega) (by omega), hidden_ok hdv hdt (a := a) (by rw [e3]; exact hlt) (by omega) (by omega)]
     simp only [cond_true, Option.bind_some, bne_self_eq_false, cond_false, Bool.and_self]
     have hin := hull_map_le (f := fun t : Tr => placeP (s.2.2.1.getD a sn0) t.1 ((w % 31 : Nat) : Int)) hm
     rw [e3, L42, notIn_f.2 hin]
     simp only [Option.bind_some, Bool.not_false, Bool.not_true, cond_false]
     rw [L46 _ (by omega) (by omega)]
     simp only [Option.bind_some]
     rw [L45, deny_not (q := fun t : Tr => farP (placeP (s.2.2.1.getD a sn0) t.1 ((w % 31 : Nat) : Int)) 90) hm]
     exact same a hlt (ih (a + 1) (by omega)) a 0 (Nat.zero_add _)
   have belts : ∀ (c b : Nat), b + c = s.1.length → Ev fun k => T8_0 (w : Int) b (withP s t.2.1) t k = some (true, ()) := by
    intro c
    induction c with
    | zero =>
     intro b hb
     refine R8_0 _ _ _ _ ?_
     rw [e1, dec_f (by omega), wrap_id (x := (w : Int)) (by omega) (by omega), show Int.tmod (w : Int) 31 = ((w % 31 : Nat) : Int) by rw [Int.tmod_eq_emod_of_nonneg (by omega)]; simp]
     exact seen _ 0 (Nat.zero_add _)
    | succ c ih =>
     intro b hb
     have hlt : b < s.1.length := by omega
     refine R8_0 _ _ _ _ ?_
     rw [e1, dec_t (show (b : Int) < (s.1.length : Int) by omega), L21, rate_ok hdv hdt (b := b) (by rw [e1]; exact hlt), dec_t (show (0 : Int) ≤ (b : Int) by omega), dec_t (show (b : Int) < (t.1.length : Int) by omega), Int.toNat_natCast, wrap_succ (n := b) (by omega)]
     simp only [cond_true, Option.bind_some, bne_self_eq_false, cond_false, Bool.and_self]
     have hin := hull_map_le (f := fun t : Tr => t.1.getD b 0) hm
     rw [L42, notIn_f.2 hin]
     exact ih (b + 1) (by omega)
   exact belts _ 0 (Nat.zero_add _)
end Go.Proofs.Ytkhhbpocmmmnmaa
