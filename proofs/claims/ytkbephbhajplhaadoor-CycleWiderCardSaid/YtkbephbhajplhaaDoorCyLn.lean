/- What the ghost comes to: the statement 14. Conditions: none (equations, each by computation). -/
import Derived.Test.YtkbephbhajplhaaDoorCyHa
import Derived.Test.YtkbephbhajplhaaDoorCyAw
namespace Go.Proofs.YtkbephbhajplhaaDoor
open Go Go.Gh Go.Proofs
def S14 : List Gh.Spec := [{ key := (0, 14, 6, 1), frs := [{ fn := 14, n := 110, regs := [(2, (.ptr 140002 [])), (3, (.ptr 140003 [])), (5, (.ptr 140005 [])), (6, (.dat (.int .i64)))], round := none, defers := [] }], heap := [(140002, .box (.dat tSe) false), (140003, .box (.dat (.arr 3 (.int .u8))) false), (140005, .box (.dat tSe) false)] }]
noncomputable def K14_0 : Kept := { todos := [[.inLoop (cAt Tryd.f14 [1, 1, 1, 1, 0, 1, 0, 0]), .inBlock 0, .code (cAt Tryd.f14 [1, 1, 1, 1, 1])]], cs := [noCodes, noCodes, noCodes] }
abbrev GT14 : Type := (n : Nat) → Kept → denK (specAt S14 n) → Option (denL [.bool])
theorem E14 (G : GT14) (t0 : Se) (t1 : (List Int)) : enter cx58 S14 [.bool] 6000 some G 14 [tSe, (.arr 3 (.int .u8))] (t0, (t1, ())) =
  Option.bind (F51 (t0, ())) fun (y : Bool × Unit) =>
 bif !Prod.fst y then Option.bind (F23 ()) fun (y : Bool × Unit) => some (Prod.fst y, ())
 else
  Option.bind
   (F36
     (if IntKind.wrap IntKind.i64 (Prod.fst (Prod.fst (Prod.snd (Prod.snd t0))) - Int.tmod (IntKind.wrap IntKind.i64 (List.getD t1 0 0)) 3) > 2 then IntKind.wrap IntKind.i64 (Prod.fst (Prod.fst (Prod.snd (Prod.snd t0))) - Int.tmod (IntKind.wrap IntKind.i64 (List.getD t1 0 0)) 3) else 2,
       if IntKind.wrap IntKind.i64 (Prod.fst (Prod.snd (Prod.fst (Prod.snd (Prod.snd t0)))) + Int.tmod (IntKind.wrap IntKind.i64 (List.getD t1 1 0)) 3) < 7 then IntKind.wrap IntKind.i64 (Prod.fst (Prod.snd (Prod.fst (Prod.snd (Prod.snd t0)))) + Int.tmod (IntKind.wrap IntKind.i64 (List.getD t1 1 0)) 3) else 7, ()))
   fun (y : Sp × Unit) => G 0 K14_0 ((((), (), (), 0, ()), ()), t0, t1, (Prod.fst t0, Prod.fst (Prod.snd t0), Prod.fst y, ()), ()) := by kernel_rfl
theorem Q14_0 (G : GT14) (t6 : Int) (h0 : Se) (h1 : (List Int)) (h2 : Se) : seg cx58 S14 [.bool] 6000 some G 0 K14_0 ((((), ((), ((), (t6, ())))), ()), (h0, (h1, (h2, ())))) =
  bif decide (t6 < (↑(List.length (Prod.fst h0)) : Int)) then
 Option.bind (F19 (h0, t6, ())) fun (y : Sp × Int × Unit) =>
  Option.bind (F19 (h2, t6, ())) fun (y_1 : Sp × Int × Unit) =>
   bif Prod.fst (Prod.snd y) != 0 then some (false, ()) else bif Prod.fst (Prod.snd y_1) != 0 then some (false, ()) else Option.bind (F57 (Prod.fst y, Prod.fst y_1, ())) fun (y : Bool × Unit) => bif !Prod.fst y then some (false, ()) else G 0 K14_0 ((((), (), (), IntKind.wrap IntKind.i64 (t6 + 1), ()), ()), h0, h1, h2, ())
 else
 Option.bind (F36 (Int.tmod (IntKind.wrap IntKind.i64 (List.getD h1 2 0)) 40, 50, ())) fun (y : Sp × Unit) =>
  Option.bind (F30 (h0, Prod.fst y, Int.tmod (IntKind.wrap IntKind.i64 (List.getD h1 2 0)) 3, ())) fun (y_1 : List Int × Int × Unit) =>
   Option.bind (F30 (h2, Prod.fst y, Int.tmod (IntKind.wrap IntKind.i64 (List.getD h1 2 0)) 3, ())) fun (y : List Int × Int × Unit) =>
    bif Prod.fst (Prod.snd y_1) == 0 then bif Prod.fst (Prod.snd y) == 0 then Option.bind (F58 (Prod.fst y_1, Prod.fst y, ())) fun (y : Bool × Unit) => bif Prod.fst y then Option.bind (F23 ()) fun (y : Bool × Unit) => some (Prod.fst y, ()) else some (false, ()) else some (false, ()) else some (false, ()) := by kernel_rfl
noncomputable def F14 : denL [tSe, (.arr 3 (.int .u8))] → Option (denL [.bool]) := ghost cx58 S14 6000 14 [tSe, (.arr 3 (.int .u8))] [.bool]
noncomputable abbrev T14_0 (t6 : Int) (h0 : Se) (h1 : (List Int)) (h2 : Se) (f : Nat) : Option (denL [.bool]) := iter cx58 S14 [.bool] 6000 f 0 K14_0 ((((), ((), ((), (t6, ())))), ()), (h0, (h1, (h2, ()))))
theorem U14_0 (t6 : Int) (h0 : Se) (h1 : (List Int)) (h2 : Se) {y : denL [.bool]} (h : Ev fun k => seg cx58 S14 [.bool] 6000 some (iter cx58 S14 [.bool] 6000 k) 0 K14_0 ((((), ((), ((), (t6, ())))), ()), (h0, (h1, (h2, ())))) = some y) : Ev fun k => T14_0 t6 h0 h1 h2 k = some y := iter_ev h
theorem R14_0 (t6 : Int) (h0 : Se) (h1 : (List Int)) (h2 : Se) {y : denL [.bool]} (h : Ev fun k =>
 (bif decide (t6 < (↑(List.length (Prod.fst h0)) : Int)) then
 Option.bind (F19 (h0, t6, ())) fun (y : Sp × Int × Unit) =>
   Option.bind (F19 (h2, t6, ())) fun (y_1 : Sp × Int × Unit) =>
    bif Prod.fst (Prod.snd y) != 0 then some (false, ()) else bif Prod.fst (Prod.snd y_1) != 0 then some (false, ()) else Option.bind (F57 (Prod.fst y, Prod.fst y_1, ())) fun (y : Bool × Unit) => bif !Prod.fst y then some (false, ()) else T14_0 (IntKind.wrap IntKind.i64 (t6 + 1)) h0 h1 h2 k
 else
 Option.bind (F36 (Int.tmod (IntKind.wrap IntKind.i64 (List.getD h1 2 0)) 40, 50, ())) fun (y : Sp × Unit) =>
   Option.bind (F30 (h0, Prod.fst y, Int.tmod (IntKind.wrap IntKind.i64 (List.getD h1 2 0)) 3, ())) fun (y_1 : List Int × Int × Unit) =>
    Option.bind (F30 (h2, Prod.fst y, Int.tmod (IntKind.wrap IntKind.i64 (List.getD h1 2 0)) 3, ())) fun (y : List Int × Int × Unit) =>
     bif Prod.fst (Prod.snd y_1) == 0 then bif Prod.fst (Prod.snd y) == 0 then Option.bind (F58 (Prod.fst y_1, Prod.fst y, ())) fun (y : Bool × Unit) => bif Prod.fst y then Option.bind (F23 ()) fun (y : Bool × Unit) => some (Prod.fst y, ()) else some (false, ()) else some (false, ()) else some (false, ()) : Option (denL [.bool])) = some y) : Ev fun k => T14_0 t6 h0 h1 h2 k = some y := U14_0 _ _ _ _ (Ev.eq (fun _ => Q14_0 _ _ _ _ _) h)
theorem N14 (t0 : Se) (t1 : (List Int)) {y : denL [.bool]} (h : Ev fun k =>
 (Option.bind (F51 (t0, ())) fun (y : Bool × Unit) =>
 bif !Prod.fst y then Option.bind (F23 ()) fun (y : Bool × Unit) => some (Prod.fst y, ())
 else
   Option.bind
    (F36
      (if IntKind.wrap IntKind.i64 (Prod.fst (Prod.fst (Prod.snd (Prod.snd t0))) - Int.tmod (IntKind.wrap IntKind.i64 (List.getD t1 0 0)) 3) > 2 then IntKind.wrap IntKind.i64 (Prod.fst (Prod.fst (Prod.snd (Prod.snd t0))) - Int.tmod (IntKind.wrap IntKind.i64 (List.getD t1 0 0)) 3) else 2,
        if IntKind.wrap IntKind.i64 (Prod.fst (Prod.snd (Prod.fst (Prod.snd (Prod.snd t0)))) + Int.tmod (IntKind.wrap IntKind.i64 (List.getD t1 1 0)) 3) < 7 then IntKind.wrap IntKind.i64 (Prod.fst (Prod.snd (Prod.fst (Prod.snd (Prod.snd t0)))) + Int.tmod (IntKind.wrap IntKind.i64 (List.getD t1 1 0)) 3) else 7, ()))
    fun (y : Sp × Unit) => T14_0 0 t0 t1 (Prod.fst t0, Prod.fst (Prod.snd t0), Prod.fst y, ()) k : Option (denL [.bool])) = some y) : F14 (t0, (t1, ())) = some y := ghost_eq (Ev.eq (fun _ => E14 _ _ _) h)
end Go.Proofs.YtkbephbhajplhaaDoor
/- CycleWider: with a wider Gap no Number is narrower, and no fewer years can be the wreck. Conditions: none. -/
namespace Go.Proofs.YtkbephbhajplhaaDoor
open Go Go.Gh Go.Proofs
theorem nums_sub {s z : Se} (h : Alv s) (hz : Alv z) (hl : s.1.length = z.1.length) (hsub : ∀ t ∈ truthsR s 0, t ∈ truthsR z 0) (p : Nat) {q : Nat} (hq : q < s.1.length) : (numsP z p q).1 ≤ (numsP s p q).1 ∧ (numsP s p q).2.1 ≤ (numsP z p q).2.1 := by
 obtain ⟨⟨t, a1, e1⟩, ⟨u, a2, e2⟩, _⟩ := h.nums p hq
 obtain ⟨_, _, all, _⟩ := hz.nums p (q := q) (by omega)
 have b1 := all t (hsub t a1)
 have b2 := all u (hsub u a2)
 omega
theorem wreck_sub {A B : List (List Int)} (hsub : ∀ t ∈ A, t ∈ B) (x : Sp) (seen n : Nat) : ∀ v ∈ numsL (fun i => A.any fun t => metAt x seen t i) n, v ∈ numsL (fun i => B.any fun t => metAt x seen t i) n := fun v hv => by
 rw [numsL_mem] at hv ⊢
 obtain ⟨m, h1, h2, h3⟩ := hv
 refine ⟨m, h1, ?_, h3⟩
 rw [List.any_eq_true] at h2 ⊢
 obtain ⟨t, ht, hm⟩ := h2
 exact ⟨t, hsub t ht, hm⟩
theorem all_list {l p : List Int} (h : ∀ v ∈ l, v ∈ p) : (l.all fun x => decide (x ∈ p)) = true := by
 rw [List.all_eq_true]
 exact fun x hx => decide_eq_true (h x hx)
theorem allB_gap (s : Se) (c : List Sm) (g : Sp) : ∀ i, allB (s.1, c, g, ()) i = allB s i
 | 0 => rfl
 | i + 1 => by simp only [allB]; rw [allB_gap s c g i]; rfl
theorem gapChk_mono {g g' : Sp} (h : ∀ n, inGap g n = true → inGap g' n = true) : ∀ (l : Int) (r : List Nat), gapChk g l r = true → gapChk g' l r = true
 | _, [], _ => rfl
 | l, k :: r, hc => by
  simp only [gapChk, Bool.and_eq_true, Bool.or_eq_true] at hc ⊢
  exact ⟨hc.1.imp id (h _), gapChk_mono h k r hc.2⟩
def wideG (s : Se) (u v : Int) : Sp := (if s.2.2.1.1 - u > 2 then s.2.2.1.1 - u else 2, if s.2.2.1.2.1 + v < 7 then s.2.2.1.2.1 + v else 7, ())
theorem wide_vs {s : Se} (hs : VS s) {u v : Int} (hu : 0 ≤ u) (hv : 0 ≤ v) : VS (s.1, s.2.1, wideG s u v, ()) := by
 have hg := hs.gap
 refine ⟨hs.lo, hs.hi, hs.years, hs.many, hs.sums, ?_⟩
 simp only [wideG]
 split <;> split <;> omega
theorem wide_truths {s : Se} (hs : VS s) {u v : Int} (hu : 0 ≤ u) (hv : 0 ≤ v) : ∀ t ∈ truthsR s 0, t ∈ truthsR (s.1, s.2.1, wideG s u v, ()) 0 := fun t ht => by
 have hg := hs.gap
 unfold truthsR at ht ⊢
 rw [List.mem_filter] at ht ⊢
 refine ⟨?_, ?_⟩
 ·have := allB_gap s s.2.1 (wideG s u v) s.1.length
  exact this ▸ ht.1
 ·have h2 := ht.2
  unfold okAll at h2 ⊢
  rw [Bool.and_eq_true] at h2 ⊢
  refine ⟨gapChk_mono (fun n hn => ?_) _ _ h2.1, h2.2⟩
  unfold inGap at hn ⊢
  rw [Bool.and_eq_true, decide_eq_true_eq, decide_eq_true_eq] at hn ⊢
  simp only [wideG]
  split <;> split <;> omega
theorem L14 (s : Se) (x : List Int) (hx : ∀ i, 0 ≤ x.getD i 0 ∧ x.getD i 0 ≤ 255) : F14 ((s, x, ()) : Se × List Int × Unit) = some (true, ()) := by
 refine N14 _ _ ?_
 rw [L51]
 simp only [Option.bind_some]
 cases ha : alvB s with
 | false =>
  rw [L23]
  exact Ev.all fun _ => by first | rfl | trivial
 | true =>
  have h := alvB_iff.1 ha
  have h7 := h.ok.hi
  have hg := h.ok.gap
  obtain ⟨u, hu⟩ := Int.eq_ofNat_of_zero_le (hx 0).1
  obtain ⟨v, hv⟩ := Int.eq_ofNat_of_zero_le (hx 1).1
  obtain ⟨w, hw⟩ := Int.eq_ofNat_of_zero_le (hx 2).1
  have hu2 := (hx 0).2
  have hv2 := (hx 1).2
  have hw2 := (hx 2).2
  have tm : ∀ p q : Nat, Int.tmod (p : Int) (q : Int) = ((p % q : Nat) : Int) := fun p q => by rw [Int.tmod_eq_emod_of_nonneg (by omega)]; simp
  have eu : Int.tmod (IntKind.wrap IntKind.i64 (x.getD 0 0)) 3 = ((u % 3 : Nat) : Int) := by rw [hu, wrap_id (by omega) (by omega)]; exact tm u 3
  have ev : Int.tmod (IntKind.wrap IntKind.i64 (x.getD 1 0)) 3 = ((v % 3 : Nat) : Int) := by rw [hv, wrap_id (by omega) (by omega)]; exact tm v 3
  have ew : Int.tmod (IntKind.wrap IntKind.i64 (x.getD 2 0)) 3 = ((w % 3 : Nat) : Int) := by rw [hw, wrap_id (by omega) (by omega)]; exact tm w 3
  have ew2 : Int.tmod (IntKind.wrap IntKind.i64 (x.getD 2 0)) 40 = ((w % 40 : Nat) : Int) := by rw [hw, wrap_id (by omega) (by omega)]; exact tm w 40
  rw [eu, ev, wrap_id (x := s.2.2.1.1 - ((u % 3 : Nat) : Int)) (by omega) (by omega), wrap_id (x := s.2.2.1.2.1 + ((v % 3 : Nat) : Int)) (by omega) (by omega), L36]
  simp only [Bool.not_true, cond_false, Option.bind_some]
  have hz : Alv (s.1, s.2.1, wideG s ((u % 3 : Nat) : Int) ((v % 3 : Nat) : Int), ()) := by
   refine ⟨wide_vs h.ok (by omega) (by omega), fun e => ?_⟩
   cases hr : truthsR s 0 with
   | nil => exact h.some hr
   | cons t l =>
    have := wide_truths h.ok (u := ((u % 3 : Nat) : Int)) (v := ((v % 3 : Nat) : Int)) (by omega) (by omega) t (by rw [hr]; simp)
    rw [e] at this; simp at this
  have hsub := wide_truths h.ok (u := ((u % 3 : Nat) : Int)) (v := ((v % 3 : Nat) : Int)) (by omega) (by omega)
  change Ev fun k => T14_0 0 s x (s.1, s.2.1, wideG s ((u % 3 : Nat) : Int) ((v % 3 : Nat) : Int), ()) k = some (true, ())
  have hzl : ((s.1, s.2.1, wideG s ((u % 3 : Nat) : Int) ((v % 3 : Nat) : Int), ()) : Se).1.length = s.1.length := rfl
  generalize ((s.1, s.2.1, wideG s ((u % 3 : Nat) : Int) ((v % 3 : Nat) : Int), ()) : Se) = z at hz hsub hzl ⊢
  have key : ∀ (c i : Nat), i + c = s.1.length → Ev fun k => T14_0 (i : Int) s x z k = some (true, ()) := by
   intro c
   induction c with
   | zero =>
    intro i hi
    refine R14_0 _ _ _ _ ?_
    have l3 : w % 3 ≤ 2 := by omega
    have l40 : w % 40 ≤ 39 := by omega
    rw [dec_f (by omega), ew, ew2, L36]
    simp only [cond_false, Option.bind_some]
    have hend : endsP (((w % 40 : Nat) : Int), 50, ()) 0 99 = 0 := endsP_zero.2 ⟨by simp only; omega, by simp only; omega, by simp only; omega⟩
    rw [L30, L30, h.wreck _ l3 hend, hz.wreck _ l3 hend, hzl]
    simp only [Option.bind_some, beq_self_eq_true, cond_true]
    have n1 := numsL_len (fun i => (truthsR s 0).any fun t => metAt (((w % 40 : Nat) : Int), 50, ()) (w % 3) t i) s.1.length
    have n2 := numsL_len (fun i => (truthsR z 0).any fun t => metAt (((w % 40 : Nat) : Int), 50, ()) (w % 3) t i) s.1.length
    rw [L58 _ _ (by omega) (by omega), all_list (wreck_sub hsub _ _ _), L23]
    exact Ev.all fun _ => by first | rfl | trivial
   | succ c ih =>
    intro i hi
    refine R14_0 _ _ _ _ ?_
    have hn := nums_sub h hz hzl.symm hsub i (q := i) (by omega)
    rw [dec_t (show (i : Int) < (s.1.length : Int) by omega), L19, L19, h.number (by omega), hz.number (by omega), wrap_succ (n := i) (by omega)]
    simp only [cond_true, Option.bind_some, bne_self_eq_false, cond_false]
    rw [L57, dec_t (show (numsP s i i).1 ≥ (numsP z i i).1 from hn.1), dec_t hn.2]
    exact ih (i + 1) (by omega)
  exact key s.1.length 0 (by omega)
end Go.Proofs.YtkbephbhajplhaaDoor
