/- What the ghost comes to: law 13. Conditions: none (equations, each by computation). -/
import Derived.Test.YtkhhbpocmmmnmaaTuH
import Derived.Test.YtkhhbpocmmmnmaaTuV
namespace Go.Proofs.Ytkhhbpocmmmnmaa
open Go Go.Gh Go.Proofs
def S13 : List Gh.Spec := [{ key := (0, 13, 6, 1), frs := [{ fn := 13, n := 71, regs := [(1, (.ptr 130001 [])), (5, (.ptr 130005 [])), (6, (.dat (.int .i64)))], round := none, defers := [] }], heap := [(130001, .box (.dat tSu) false), (130005, .box (.dat tSp) false)] }]
noncomputable def K13_0 : Kept := { todos := [[.inLoop (cAt Try.f13 [1, 1, 1, 0, 1, 0, 0]), .inBlock 0, .code (cAt Try.f13 [1, 1, 1, 1])]], cs := [noCodes, noCodes] }
noncomputable def F13 : denL [tSu] → Option (denL [.bool]) := ghost cx41 S13 6000 13 [tSu] [.bool]
noncomputable abbrev T13_0 (t6 : Int) (h0 : Su) (h1 : Sp) (f : Nat) : Option (denL [.bool]) := iter cx41 S13 [.bool] 6000 f 0 K13_0 ((((), ((), (t6, ()))), ()), (h0, (h1, ())))
theorem R13_0 (t6 : Int) (h0 : Su) (h1 : Sp) {y : denL [.bool]} (h : Ev fun k =>
 (bif decide (t6 < (↑(List.length h0.1) : Int)) then Option.bind (F21 (h0, t6, ())) fun (y : Sp × Int × Unit) => bif y.2.1 != 0 then some (false, ()) else bif decide (y.1.1 > y.1.2.1) then some (false, ()) else bif decide (y.1.1 > h1.1) then some (false, ()) else bif decide (y.1.2.1 > h1.2.1) then some (false, ()) else bif decide (0 ≤ t6) && decide (t6 < (↑(List.length h0.1) : Int)) then Option.bind (F54 (y.1, List.getD h0.1 (Int.toNat t6) (0, 0, ()), ())) fun (y_1 : Bool × Unit) => bif !y_1.1 then some (false, ()) else T13_0 (IntKind.wrap IntKind.i64 (t6 + 1)) h0 y.1 k else none else Option.bind (F25 ()) fun (y : Bool × Unit) => some (y.1, ()) : Option (denL [.bool])) = some y) : Ev fun k => T13_0 t6 h0 h1 k = some y := iter_ev (Ev.eq (fun _ => by kernel_rfl) h)
theorem N13 (t0 : Su) {y : denL [.bool]} (h : Ev fun k =>
 (Option.bind (F47 (t0, ())) fun (y : Bool × Unit) => bif !y.1 then Option.bind (F21 (t0, 0, ())) fun (y : Sp × Int × Unit) => bif y.2.1 != 0 then Option.bind (F25 ()) fun (y : Bool × Unit) => some (y.1, ()) else some (false, ()) else Option.bind (F39 (16, 16, ())) fun (y : Sp × Unit) => T13_0 0 t0 y.1 k : Option (denL [.bool])) = some y) : F13 (t0, ()) = some y := ghost_eq (Ev.eq (fun _ => by kernel_rfl) h)
end Go.Proofs.Ytkhhbpocmmmnmaa
/- Law 13: faster by the middle. Conditions: as each lemma states. -/
namespace Go.Proofs.Ytkhhbpocmmmnmaa
open Go Go.Gh Go.Proofs
theorem awake_end {y : denL [.bool]} (h : ((true, ()) : Bool × Unit) = y) : Ev fun _ : Nat => (Option.bind (F25 ()) fun (y : Bool × Unit) => some (y.1, ()) : Option (denL [.bool])) = some y := by
 rw [L25, ← h]
 exact Ev.all fun _ => rfl
theorem L13 (s : Su) : F13 ((s, ()) : Su × Unit) = some (true, ()) := by
 refine N13 _ ?_
 rw [L47]
 simp only [Option.bind_some]
 cases hv : someP s with
 | false =>
  simp only [Bool.not_false, cond_true]
  rw [L21]
  simp only [Option.bind_some]
  have he : (rateP s 0).2.1 ≠ 0 := by
   have := errP_ne hv [askB s.1.length [0]] (ne1 four_ne)
   unfold rateP
   rw [if_neg this]
   exact this
  rw [nbqf he]
  exact awake_end rfl
 | true =>
  obtain ⟨hs, ht⟩ := someP_t.1 hv
  have h3 := hs.b3
  have hne := refL_ne hs ht
  simp only [Bool.not_true, cond_false]
  rw [L39]
  simp only [Option.bind_some]
  have key : ∀ (c i : Nat) (x : Sp), i + c = s.1.length → (∀ t ∈ refL s, i < s.1.length → ∃ u ∈ refL s, True) →
    (∀ t ∈ refL s, i < s.1.length → t.1.getD i 0 ≤ x.2.1) → (i < s.1.length → (hullL ((refL s).map fun t => t.1.getD i 0)).1 ≤ x.1) → Ev fun k => T13_0 i s x k = some (true, ()) := by
   intro c
   induction c with
   | zero =>
    intro i x hi _ _ _
    refine R13_0 _ _ _ ?_
    rw [dec_f (by omega)]
    exact awake_end rfl
   | succ c ih =>
    intro i x hi h0 hhi hlo
    have hlt : i < s.1.length := by omega
    refine R13_0 _ _ _ ?_
    rw [dec_t (show (i : Int) < (s.1.length : Int) by omega), L21, rate_ok hs ht hlt, dec_t (show (0 : Int) ≤ (i : Int) by omega), Int.toNat_natCast, wrap_succ (n := i) (by omega), show s.1.getD i (0, 0, ()) = s.1.getD i sp0 from rfl]
    simp only [Bool.and_self, cond_true, Option.bind_some, bne_self_eq_false, cond_false]
    have hat := hull_map_at (f := fun t : Tr => t.1.getD i 0) hne
    obtain ⟨⟨t1, m1, e1⟩, t2, m2, e2⟩ := hat
    have b1 := (mem_refL.1 m1).rt.bd i hlt
    have b2 := (mem_refL.1 m2).rt.bd i hlt
    have c1 := hull_map_le (f := fun t : Tr => t.1.getD i 0) m1
    have hh := hhi t2 m2 hlt
    have hl := hlo hlt
    have hnext : ∀ t ∈ refL s, i + 1 < s.1.length → t.1.getD (i + 1) 0 ≤ t.1.getD i 0 := fun t hm h => (mem_refL.1 hm).rt.fall i h
    have ihh := ih (i + 1) (hullL ((refL s).map fun t => t.1.getD i 0)) (by omega) (fun t hm h => ⟨t, hm, trivial⟩) (fun t hm h => by
     have := hnext t hm h
     have := hull_map_le (f := fun t : Tr => t.1.getD i 0) hm
     omega) (fun h => by
     have := hnext t1 m1 h
     have := hull_map_le (f := fun t : Tr => t.1.getD (i + 1) 0) m1
     omega)
    generalize hullL ((refL s).map fun t => t.1.getD i 0) = y at *
    rw [dec_f (show ¬ y.1 > y.2.1 by omega), dec_f (show ¬ y.1 > x.1 by omega), dec_f (show ¬ y.2.1 > x.2.1 by omega), L54]
    simp only [cond_false, Option.bind_some]
    have hw : withinP y (s.1.getD i sp0) = true := by
     unfold withinP
     rw [dec_t (show (s.1.getD i sp0).1 ≤ y.1 by omega), dec_t (show y.2.1 ≤ (s.1.getD i sp0).2.1 by omega)]
     rfl
    rw [hw]
    exact ihh
  refine key s.1.length 0 (16, 16, ()) (by omega) (fun t hm _ => ⟨t, hm, trivial⟩) (fun t hm h => ?_) (fun h => ?_)
  ·have := (mem_refL.1 hm).rt.bd 0 h
   have := hs.belts 0 h
   show t.1.getD 0 0 ≤ 16
   omega
  ·obtain ⟨⟨t1, m1, e1⟩, _⟩ := hull_map_at (f := fun t : Tr => t.1.getD 0 0) hne
   have := (mem_refL.1 m1).rt.bd 0 h
   have := hs.belts 0 h
   show _ ≤ (16 : Int)
   omega
end Go.Proofs.Ytkhhbpocmmmnmaa
