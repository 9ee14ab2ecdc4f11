/- Maxima of truths, and how far they are apart. Conditions: as each lemma states. -/
import Derived.Test.YtkbephbhajplhaaDoorCyHa
import Derived.Test.YtkbephbhajplhaaDoorCyAw
namespace Go.Proofs.YtkbephbhajplhaaDoor
open Go Go.Gh Go.Proofs
theorem mem_tops {n : Nat} {t : List Int} {j : Nat} : j ∈ topsFrom n t 0 ↔ j < n ∧ isTop n t j = true := by
 unfold topsFrom
 rw [List.mem_filter, List.mem_range'_1]
 simp
theorem gaps_next {l i : Nat} : ∀ {T : List Nat}, T.Pairwise (· < ·) → l ∈ T → i ∈ T → l < i → (∀ j ∈ T, ¬ (l < j ∧ j < i)) → ((i : Int) - (l : Int)) ∈ gapsL T
 | [], _, h, _, _, _ => by simp at h
 | [a], _, h1, h2, h3, _ => by
  simp only [List.mem_singleton] at h1 h2; omega
 | a :: b :: r, hp, h1, h2, h3, h4 => by
  rw [List.pairwise_cons] at hp
  simp only [gapsL, List.mem_cons]
  by_cases e : l = a
  ·subst e
   have hi : i ∈ b :: r := by
    rcases List.mem_cons.1 h2 with e | e
    ·omega
    ·exact e
   have hb : b ≤ i := by
    rcases List.mem_cons.1 hi with e | e
    ·omega
    ·have := (List.pairwise_cons.1 hp.2).1 i e; omega
   have hlb := hp.1 b (by simp)
   have := h4 b (by simp)
   left; omega
  ·have h1' : l ∈ b :: r := (List.mem_cons.1 h1).resolve_left e
   have hal := hp.1 l h1'
   have h2' : i ∈ b :: r := by
    rcases List.mem_cons.1 h2 with e | e
    ·omega
    ·exact e
   exact .inr (gaps_next hp.2 h1' h2' h3 fun j hj => h4 j (List.mem_cons_of_mem _ hj))
theorem gapChk_in {g : Sp} : ∀ {T : List Nat} {a : Nat}, gapChk g (a : Int) T = true → ∀ v ∈ gapsL (a :: T), inGap g v = true
 | [], _, _, v, hv => by simp [gapsL] at hv
 | b :: r, a, h, v, hv => by
  simp only [gapChk, Bool.and_eq_true, Bool.or_eq_true, decide_eq_true_eq] at h
  simp only [gapsL, List.mem_cons] at hv
  rcases hv with rfl | hv
  ·exact h.1.resolve_left (by omega)
  ·exact gapChk_in h.2 v hv
theorem gapChk_all {g : Sp} {T : List Nat} (h : gapChk g (-1) T = true) : ∀ v ∈ gapsL T, inGap g v = true := by
 cases T with
 | nil => intro v hv; simp [gapsL] at hv
 | cons a T =>
  simp only [gapChk, Bool.and_eq_true] at h
  exact gapChk_in h.2
theorem truth_ok {s : Se} {but : Nat} {t : List Int} (h : t ∈ truthsR s but) : gapChk s.2.2.1 (-1) (topsFrom s.1.length t 0) = true ∧ ∀ k, k < s.2.1.length → okSumR s but t k = true := by
 unfold truthsR at h
 have h2 := (List.mem_filter.1 h).2
 unfold okAll at h2
 rw [Bool.and_eq_true, List.all_eq_true] at h2
 exact ⟨h2.1, fun k hk => h2.2 k (List.mem_range.2 hk)⟩
theorem truth_gap {s : Se} {t : List Int} (h : t ∈ truthsR s 0) : ∀ v ∈ gapsL (topsFrom s.1.length t 0), inGap s.2.2.1 v = true := gapChk_all (truth_ok h).1
theorem gapsR_in {s : Se} : ∀ v ∈ gapsR s, inGap s.2.2.1 v = true := fun v hv => by
 unfold gapsR at hv
 rw [List.mem_flatMap] at hv
 obtain ⟨t, ht, hv⟩ := hv
 exact truth_gap ht v hv
theorem top_not_bot {n : Nat} {t : List Int} {i : Nat} (h : isTop n t i = true) : isBot n t i = false := by
 by_cases h1 : 0 < i ∧ i + 1 < n
 ·rw [isTop_mid h1.1 h1.2, Bool.and_eq_true, decide_eq_true_eq, decide_eq_true_eq] at h
  rw [isBot_mid h1.1 h1.2, Bool.and_eq_false_iff, decide_eq_false_iff_not]
  left; omega
 ·unfold isTop at h
  have : (decide (0 < i) && decide (i + 1 < n)) = false := by
   rw [Bool.and_eq_false_iff, decide_eq_false_iff_not, decide_eq_false_iff_not]; omega
  rw [this] at h; simp at h
theorem top_zero (n : Nat) (t : List Int) : isTop n t 0 = false := by unfold isTop; simp
theorem bot_zero (n : Nat) (t : List Int) : isBot n t 0 = false := by unfold isBot; simp
theorem Alv.gap_in {s : Se} (h : Alv s) {t : List Int} (ht : t ∈ truthsR s 0) {v : Int} (hv : v ∈ gapsL (topsFrom s.1.length t 0)) : (gapsP s).2.1 = 0 ∧ inGap (gapsP s).1 v = true := by
 have hm : v ∈ gapsR s := by unfold gapsR; exact List.mem_flatMap.2 ⟨t, ht, hv⟩
 rw [h.gaps]
 rcases spanH (gapsR_bd h.ok.hi) with ⟨e, _⟩ | ⟨x, e, hh⟩
 ·rw [e] at hm; simp at hm
 ·rw [e]
  refine ⟨rfl, ?_⟩
  have := hh.all v hm
  unfold inGap
  rw [dec_t this.1, dec_t this.2]; rfl
end Go.Proofs.YtkbephbhajplhaaDoor
/- What the ghost comes to: the statement 12. Conditions: none (equations, each by computation). -/
namespace Go.Proofs.YtkbephbhajplhaaDoor
open Go Go.Gh Go.Proofs
def S12 : List Gh.Spec := [{ key := (0, 12, 7, 1), frs := [{ fn := 12, n := 132, regs := [(1, (.ptr 120001 [])), (6, (.ptr 120006 [])), (7, (.dat (.int .i64))), (8, (.dat (.int .i64))), (9, (.dat .bool)), (10, (.dat (.int .i64)))], round := none, defers := [] }], heap := [(120001, .box (.dat tSe) false), (120006, .box (.dat tSp) false)] }]
noncomputable def K12_0 : Kept := { todos := [[.inLoop (cAt Tryd.f12 [1, 1, 1, 1, 0, 1, 0, 0]), .inBlock 0, .code (cAt Tryd.f12 [1, 1, 1, 1, 1])]], cs := [noCodes, noCodes] }
abbrev GT12 : Type := (n : Nat) → Kept → denK (specAt S12 n) → Option (denL [.bool])
theorem E12 (G : GT12) (t0 : Se) : enter cx58 S12 [.bool] 6000 some G 12 [tSe] (t0, ()) =
  Option.bind (F51 (t0, ())) fun (y : Bool × Unit) =>
 bif !Prod.fst y then Option.bind (F24 (t0, 0, ())) fun (y : Int × Int × Int × Unit) => bif Prod.fst (Prod.snd (Prod.snd y)) != 0 then Option.bind (F23 ()) fun (y : Bool × Unit) => some (Prod.fst y, ()) else some (false, ()) else Option.bind (F26 (t0, ())) fun (y : Sp × Int × Unit) => G 0 K12_0 ((((), (), Prod.fst (Prod.snd y), -1, false, 0, ()), ()), t0, Prod.fst y, ()) := by kernel_rfl
theorem Q12_0 (G : GT12) (t7 : Int) (t8 : Int) (t9 : Bool) (t10 : Int) (h0 : Se) (h1 : Sp) : seg cx58 S12 [.bool] 6000 some G 0 K12_0 ((((), ((), (t7, (t8, (t9, (t10, ())))))), ()), (h0, (h1, ()))) =
  bif decide (t10 < (↑(List.length (Prod.fst h0)) : Int)) then
 Option.bind (F24 (h0, t10, ())) fun (y : Int × Int × Int × Unit) =>
  bif Prod.fst (Prod.snd (Prod.snd y)) != 0 then some (false, ())
  else
   bif Prod.fst y == 1 then
    bif Prod.fst (Prod.snd y) != 2 then some (false, ())
    else
     bif Prod.fst (Prod.snd y) == 1 then
      bif Prod.fst y != 2 then some (false, ())
      else
       bif t10 == 0 then
        bif Prod.fst y != 2 then some (false, ())
        else
         bif Prod.fst (Prod.snd y) != 2 then some (false, ())
         else
          bif Prod.fst y == 1 then
           bif t9 then
            bif t7 != 0 then some (false, ())
            else
             Option.bind (F42 (IntKind.wrap IntKind.i64 (t10 - t8), Prod.fst (Prod.snd (Prod.snd h0)), ())) fun (y_1 : Bool × Unit) =>
              bif !Prod.fst y_1 then some (false, ())
              else Option.bind (F42 (IntKind.wrap IntKind.i64 (t10 - t8), h1, ())) fun (y_2 : Bool × Unit) => bif !Prod.fst y_2 then some (false, ()) else bif Prod.fst y == 0 then G 0 K12_0 ((((), (), t7, t10, false, IntKind.wrap IntKind.i64 (t10 + 1), ()), ()), h0, h1, ()) else G 0 K12_0 ((((), (), t7, t10, true, IntKind.wrap IntKind.i64 (t10 + 1), ()), ()), h0, h1, ())
           else bif Prod.fst y == 0 then G 0 K12_0 ((((), (), t7, t10, false, IntKind.wrap IntKind.i64 (t10 + 1), ()), ()), h0, h1, ()) else G 0 K12_0 ((((), (), t7, t10, true, IntKind.wrap IntKind.i64 (t10 + 1), ()), ()), h0, h1, ())
          else bif Prod.fst y == 0 then G 0 K12_0 ((((), (), t7, t8, false, IntKind.wrap IntKind.i64 (t10 + 1), ()), ()), h0, h1, ()) else G 0 K12_0 ((((), (), t7, t8, t9, IntKind.wrap IntKind.i64 (t10 + 1), ()), ()), h0, h1, ())
       else
        bif t10 == IntKind.wrap IntKind.i64 ((↑(List.length (Prod.fst h0)) : Int) - 1) then
         bif Prod.fst y != 2 then some (false, ())
         else
          bif Prod.fst (Prod.snd y) != 2 then some (false, ())
          else
           bif Prod.fst y == 1 then
            bif t9 then
             bif t7 != 0 then some (false, ())
             else
              Option.bind (F42 (IntKind.wrap IntKind.i64 (t10 - t8), Prod.fst (Prod.snd (Prod.snd h0)), ())) fun (y_1 : Bool × Unit) =>
               bif !Prod.fst y_1 then some (false, ())
               else Option.bind (F42 (IntKind.wrap IntKind.i64 (t10 - t8), h1, ())) fun (y_2 : Bool × Unit) => bif !Prod.fst y_2 then some (false, ()) else bif Prod.fst y == 0 then G 0 K12_0 ((((), (), t7, t10, false, IntKind.wrap IntKind.i64 (t10 + 1), ()), ()), h0, h1, ()) else G 0 K12_0 ((((), (), t7, t10, true, IntKind.wrap IntKind.i64 (t10 + 1), ()), ()), h0, h1, ())
            else bif Prod.fst y == 0 then G 0 K12_0 ((((), (), t7, t10, false, IntKind.wrap IntKind.i64 (t10 + 1), ()), ()), h0, h1, ()) else G 0 K12_0 ((((), (), t7, t10, true, IntKind.wrap IntKind.i64 (t10 + 1), ()), ()), h0, h1, ())
           else bif Prod.fst y == 0 then G 0 K12_0 ((((), (), t7, t8, false, IntKind.wrap IntKind.i64 (t10 + 1), ()), ()), h0, h1, ()) else G 0 K12_0 ((((), (), t7, t8, t9, IntKind.wrap IntKind.i64 (t10 + 1), ()), ()), h0, h1, ())
        else
         bif Prod.fst y == 1 then
          bif t9 then
           bif t7 != 0 then some (false, ())
           else
            Option.bind (F42 (IntKind.wrap IntKind.i64 (t10 - t8), Prod.fst (Prod.snd (Prod.snd h0)), ())) fun (y_1 : Bool × Unit) =>
             bif !Prod.fst y_1 then some (false, ())
             else Option.bind (F42 (IntKind.wrap IntKind.i64 (t10 - t8), h1, ())) fun (y_2 : Bool × Unit) => bif !Prod.fst y_2 then some (false, ()) else bif Prod.fst y == 0 then G 0 K12_0 ((((), (), t7, t10, false, IntKind.wrap IntKind.i64 (t10 + 1), ()), ()), h0, h1, ()) else G 0 K12_0 ((((), (), t7, t10, true, IntKind.wrap IntKind.i64 (t10 + 1), ()), ()), h0, h1, ())
          else bif Prod.fst y == 0 then G 0 K12_0 ((((), (), t7, t10, false, IntKind.wrap IntKind.i64 (t10 + 1), ()), ()), h0, h1, ()) else G 0 K12_0 ((((), (), t7, t10, true, IntKind.wrap IntKind.i64 (t10 + 1), ()), ()), h0, h1, ())
         else bif Prod.fst y == 0 then G 0 K12_0 ((((), (), t7, t8, false, IntKind.wrap IntKind.i64 (t10 + 1), ()), ()), h0, h1, ()) else G 0 K12_0 ((((), (), t7, t8, t9, IntKind.wrap IntKind.i64 (t10 + 1), ()), ()), h0, h1, ())
     else
      bif t10 == 0 then
       bif Prod.fst y != 2 then some (false, ())
       else
        bif Prod.fst (Prod.snd y) != 2 then some (false, ())
        else
         bif Prod.fst y == 1 then
          bif t9 then
           bif t7 != 0 then some (false, ())
           else
            Option.bind (F42 (IntKind.wrap IntKind.i64 (t10 - t8), Prod.fst (Prod.snd (Prod.snd h0)), ())) fun (y_1 : Bool × Unit) =>
             bif !Prod.fst y_1 then some (false, ())
             else Option.bind (F42 (IntKind.wrap IntKind.i64 (t10 - t8), h1, ())) fun (y_2 : Bool × Unit) => bif !Prod.fst y_2 then some (false, ()) else bif Prod.fst y == 0 then G 0 K12_0 ((((), (), t7, t10, false, IntKind.wrap IntKind.i64 (t10 + 1), ()), ()), h0, h1, ()) else G 0 K12_0 ((((), (), t7, t10, true, IntKind.wrap IntKind.i64 (t10 + 1), ()), ()), h0, h1, ())
          else bif Prod.fst y == 0 then G 0 K12_0 ((((), (), t7, t10, false, IntKind.wrap IntKind.i64 (t10 + 1), ()), ()), h0, h1, ()) else G 0 K12_0 ((((), (), t7, t10, true, IntKind.wrap IntKind.i64 (t10 + 1), ()), ()), h0, h1, ())
         else bif Prod.fst y == 0 then G 0 K12_0 ((((), (), t7, t8, false, IntKind.wrap IntKind.i64 (t10 + 1), ()), ()), h0, h1, ()) else G 0 K12_0 ((((), (), t7, t8, t9, IntKind.wrap IntKind.i64 (t10 + 1), ()), ()), h0, h1, ())
      else
       bif t10 == IntKind.wrap IntKind.i64 ((↑(List.length (Prod.fst h0)) : Int) - 1) then
        bif Prod.fst y != 2 then some (false, ())
        else
         bif Prod.fst (Prod.snd y) != 2 then some (false, ())
         else
          bif Prod.fst y == 1 then
           bif t9 then
            bif t7 != 0 then some (false, ())
            else
             Option.bind (F42 (IntKind.wrap IntKind.i64 (t10 - t8), Prod.fst (Prod.snd (Prod.snd h0)), ())) fun (y_1 : Bool × Unit) =>
              bif !Prod.fst y_1 then some (false, ())
              else Option.bind (F42 (IntKind.wrap IntKind.i64 (t10 - t8), h1, ())) fun (y_2 : Bool × Unit) => bif !Prod.fst y_2 then some (false, ()) else bif Prod.fst y == 0 then G 0 K12_0 ((((), (), t7, t10, false, IntKind.wrap IntKind.i64 (t10 + 1), ()), ()), h0, h1, ()) else G 0 K12_0 ((((), (), t7, t10, true, IntKind.wrap IntKind.i64 (t10 + 1), ()), ()), h0, h1, ())
           else bif Prod.fst y == 0 then G 0 K12_0 ((((), (), t7, t10, false, IntKind.wrap IntKind.i64 (t10 + 1), ()), ()), h0, h1, ()) else G 0 K12_0 ((((), (), t7, t10, true, IntKind.wrap IntKind.i64 (t10 + 1), ()), ()), h0, h1, ())
          else bif Prod.fst y == 0 then G 0 K12_0 ((((), (), t7, t8, false, IntKind.wrap IntKind.i64 (t10 + 1), ()), ()), h0, h1, ()) else G 0 K12_0 ((((), (), t7, t8, t9, IntKind.wrap IntKind.i64 (t10 + 1), ()), ()), h0, h1, ())
       else
        bif Prod.fst y == 1 then
         bif t9 then
          bif t7 != 0 then some (false, ())
          else
           Option.bind (F42 (IntKind.wrap IntKind.i64 (t10 - t8), Prod.fst (Prod.snd (Prod.snd h0)), ())) fun (y_1 : Bool × Unit) =>
            bif !Prod.fst y_1 then some (false, ())
            else Option.bind (F42 (IntKind.wrap IntKind.i64 (t10 - t8), h1, ())) fun (y_2 : Bool × Unit) => bif !Prod.fst y_2 then some (false, ()) else bif Prod.fst y == 0 then G 0 K12_0 ((((), (), t7, t10, false, IntKind.wrap IntKind.i64 (t10 + 1), ()), ()), h0, h1, ()) else G 0 K12_0 ((((), (), t7, t10, true, IntKind.wrap IntKind.i64 (t10 + 1), ()), ()), h0, h1, ())
         else bif Prod.fst y == 0 then G 0 K12_0 ((((), (), t7, t10, false, IntKind.wrap IntKind.i64 (t10 + 1), ()), ()), h0, h1, ()) else G 0 K12_0 ((((), (), t7, t10, true, IntKind.wrap IntKind.i64 (t10 + 1), ()), ()), h0, h1, ())
        else bif Prod.fst y == 0 then G 0 K12_0 ((((), (), t7, t8, false, IntKind.wrap IntKind.i64 (t10 + 1), ()), ()), h0, h1, ()) else G 0 K12_0 ((((), (), t7, t8, t9, IntKind.wrap IntKind.i64 (t10 + 1), ()), ()), h0, h1, ())
   else
    bif Prod.fst (Prod.snd y) == 1 then
     bif Prod.fst y != 2 then some (false, ())
     else
      bif t10 == 0 then
       bif Prod.fst y != 2 then some (false, ())
       else
        bif Prod.fst (Prod.snd y) != 2 then some (false, ())
        else
         bif Prod.fst y == 1 then
          bif t9 then
           bif t7 != 0 then some (false, ())
           else
            Option.bind (F42 (IntKind.wrap IntKind.i64 (t10 - t8), Prod.fst (Prod.snd (Prod.snd h0)), ())) fun (y_1 : Bool × Unit) =>
             bif !Prod.fst y_1 then some (false, ())
             else Option.bind (F42 (IntKind.wrap IntKind.i64 (t10 - t8), h1, ())) fun (y_2 : Bool × Unit) => bif !Prod.fst y_2 then some (false, ()) else bif Prod.fst y == 0 then G 0 K12_0 ((((), (), t7, t10, false, IntKind.wrap IntKind.i64 (t10 + 1), ()), ()), h0, h1, ()) else G 0 K12_0 ((((), (), t7, t10, true, IntKind.wrap IntKind.i64 (t10 + 1), ()), ()), h0, h1, ())
          else bif Prod.fst y == 0 then G 0 K12_0 ((((), (), t7, t10, false, IntKind.wrap IntKind.i64 (t10 + 1), ()), ()), h0, h1, ()) else G 0 K12_0 ((((), (), t7, t10, true, IntKind.wrap IntKind.i64 (t10 + 1), ()), ()), h0, h1, ())
         else bif Prod.fst y == 0 then G 0 K12_0 ((((), (), t7, t8, false, IntKind.wrap IntKind.i64 (t10 + 1), ()), ()), h0, h1, ()) else G 0 K12_0 ((((), (), t7, t8, t9, IntKind.wrap IntKind.i64 (t10 + 1), ()), ()), h0, h1, ())
      else
       bif t10 == IntKind.wrap IntKind.i64 ((↑(List.length (Prod.fst h0)) : Int) - 1) then
        bif Prod.fst y != 2 then some (false, ())
        else
         bif Prod.fst (Prod.snd y) != 2 then some (false, ())
         else
          bif Prod.fst y == 1 then
           bif t9 then
            bif t7 != 0 then some (false, ())
            else
             Option.bind (F42 (IntKind.wrap IntKind.i64 (t10 - t8), Prod.fst (Prod.snd (Prod.snd h0)), ())) fun (y_1 : Bool × Unit) =>
              bif !Prod.fst y_1 then some (false, ())
              else Option.bind (F42 (IntKind.wrap IntKind.i64 (t10 - t8), h1, ())) fun (y_2 : Bool × Unit) => bif !Prod.fst y_2 then some (false, ()) else bif Prod.fst y == 0 then G 0 K12_0 ((((), (), t7, t10, false, IntKind.wrap IntKind.i64 (t10 + 1), ()), ()), h0, h1, ()) else G 0 K12_0 ((((), (), t7, t10, true, IntKind.wrap IntKind.i64 (t10 + 1), ()), ()), h0, h1, ())
           else bif Prod.fst y == 0 then G 0 K12_0 ((((), (), t7, t10, false, IntKind.wrap IntKind.i64 (t10 + 1), ()), ()), h0, h1, ()) else G 0 K12_0 ((((), (), t7, t10, true, IntKind.wrap IntKind.i64 (t10 + 1), ()), ()), h0, h1, ())
          else bif Prod.fst y == 0 then G 0 K12_0 ((((), (), t7, t8, false, IntKind.wrap IntKind.i64 (t10 + 1), ()), ()), h0, h1, ()) else G 0 K12_0 ((((), (), t7, t8, t9, IntKind.wrap IntKind.i64 (t10 + 1), ()), ()), h0, h1, ())
       else
        bif Prod.fst y == 1 then
         bif t9 then
          bif t7 != 0 then some (false, ())
          else
           Option.bind (F42 (IntKind.wrap IntKind.i64 (t10 - t8), Prod.fst (Prod.snd (Prod.snd h0)), ())) fun (y_1 : Bool × Unit) =>
            bif !Prod.fst y_1 then some (false, ())
            else Option.bind (F42 (IntKind.wrap IntKind.i64 (t10 - t8), h1, ())) fun (y_2 : Bool × Unit) => bif !Prod.fst y_2 then some (false, ()) else bif Prod.fst y == 0 then G 0 K12_0 ((((), (), t7, t10, false, IntKind.wrap IntKind.i64 (t10 + 1), ()), ()), h0, h1, ()) else G 0 K12_0 ((((), (), t7, t10, true, IntKind.wrap IntKind.i64 (t10 + 1), ()), ()), h0, h1, ())
         else bif Prod.fst y == 0 then G 0 K12_0 ((((), (), t7, t10, false, IntKind.wrap IntKind.i64 (t10 + 1), ()), ()), h0, h1, ()) else G 0 K12_0 ((((), (), t7, t10, true, IntKind.wrap IntKind.i64 (t10 + 1), ()), ()), h0, h1, ())
        else bif Prod.fst y == 0 then G 0 K12_0 ((((), (), t7, t8, false, IntKind.wrap IntKind.i64 (t10 + 1), ()), ()), h0, h1, ()) else G 0 K12_0 ((((), (), t7, t8, t9, IntKind.wrap IntKind.i64 (t10 + 1), ()), ()), h0, h1, ())
    else
     bif t10 == 0 then
      bif Prod.fst y != 2 then some (false, ())
      else
       bif Prod.fst (Prod.snd y) != 2 then some (false, ())
       else
        bif Prod.fst y == 1 then
         bif t9 then
          bif t7 != 0 then some (false, ())
          else
           Option.bind (F42 (IntKind.wrap IntKind.i64 (t10 - t8), Prod.fst (Prod.snd (Prod.snd h0)), ())) fun (y_1 : Bool × Unit) =>
            bif !Prod.fst y_1 then some (false, ())
            else Option.bind (F42 (IntKind.wrap IntKind.i64 (t10 - t8), h1, ())) fun (y_2 : Bool × Unit) => bif !Prod.fst y_2 then some (false, ()) else bif Prod.fst y == 0 then G 0 K12_0 ((((), (), t7, t10, false, IntKind.wrap IntKind.i64 (t10 + 1), ()), ()), h0, h1, ()) else G 0 K12_0 ((((), (), t7, t10, true, IntKind.wrap IntKind.i64 (t10 + 1), ()), ()), h0, h1, ())
         else bif Prod.fst y == 0 then G 0 K12_0 ((((), (), t7, t10, false, IntKind.wrap IntKind.i64 (t10 + 1), ()), ()), h0, h1, ()) else G 0 K12_0 ((((), (), t7, t10, true, IntKind.wrap IntKind.i64 (t10 + 1), ()), ()), h0, h1, ())
        else bif Prod.fst y == 0 then G 0 K12_0 ((((), (), t7, t8, false, IntKind.wrap IntKind.i64 (t10 + 1), ()), ()), h0, h1, ()) else G 0 K12_0 ((((), (), t7, t8, t9, IntKind.wrap IntKind.i64 (t10 + 1), ()), ()), h0, h1, ())
     else
      bif t10 == IntKind.wrap IntKind.i64 ((↑(List.length (Prod.fst h0)) : Int) - 1) then
       bif Prod.fst y != 2 then some (false, ())
       else
        bif Prod.fst (Prod.snd y) != 2 then some (false, ())
        else
         bif Prod.fst y == 1 then
          bif t9 then
           bif t7 != 0 then some (false, ())
           else
            Option.bind (F42 (IntKind.wrap IntKind.i64 (t10 - t8), Prod.fst (Prod.snd (Prod.snd h0)), ())) fun (y_1 : Bool × Unit) =>
             bif !Prod.fst y_1 then some (false, ())
             else Option.bind (F42 (IntKind.wrap IntKind.i64 (t10 - t8), h1, ())) fun (y_2 : Bool × Unit) => bif !Prod.fst y_2 then some (false, ()) else bif Prod.fst y == 0 then G 0 K12_0 ((((), (), t7, t10, false, IntKind.wrap IntKind.i64 (t10 + 1), ()), ()), h0, h1, ()) else G 0 K12_0 ((((), (), t7, t10, true, IntKind.wrap IntKind.i64 (t10 + 1), ()), ()), h0, h1, ())
          else bif Prod.fst y == 0 then G 0 K12_0 ((((), (), t7, t10, false, IntKind.wrap IntKind.i64 (t10 + 1), ()), ()), h0, h1, ()) else G 0 K12_0 ((((), (), t7, t10, true, IntKind.wrap IntKind.i64 (t10 + 1), ()), ()), h0, h1, ())
         else bif Prod.fst y == 0 then G 0 K12_0 ((((), (), t7, t8, false, IntKind.wrap IntKind.i64 (t10 + 1), ()), ()), h0, h1, ()) else G 0 K12_0 ((((), (), t7, t8, t9, IntKind.wrap IntKind.i64 (t10 + 1), ()), ()), h0, h1, ())
      else
       bif Prod.fst y == 1 then
        bif t9 then
         bif t7 != 0 then some (false, ())
         else
          Option.bind (F42 (IntKind.wrap IntKind.i64 (t10 - t8), Prod.fst (Prod.snd (Prod.snd h0)), ())) fun (y_1 : Bool × Unit) =>
           bif !Prod.fst y_1 then some (false, ())
           else Option.bind (F42 (IntKind.wrap IntKind.i64 (t10 - t8), h1, ())) fun (y_2 : Bool × Unit) => bif !Prod.fst y_2 then some (false, ()) else bif Prod.fst y == 0 then G 0 K12_0 ((((), (), t7, t10, false, IntKind.wrap IntKind.i64 (t10 + 1), ()), ()), h0, h1, ()) else G 0 K12_0 ((((), (), t7, t10, true, IntKind.wrap IntKind.i64 (t10 + 1), ()), ()), h0, h1, ())
        else bif Prod.fst y == 0 then G 0 K12_0 ((((), (), t7, t10, false, IntKind.wrap IntKind.i64 (t10 + 1), ()), ()), h0, h1, ()) else G 0 K12_0 ((((), (), t7, t10, true, IntKind.wrap IntKind.i64 (t10 + 1), ()), ()), h0, h1, ())
       else bif Prod.fst y == 0 then G 0 K12_0 ((((), (), t7, t8, false, IntKind.wrap IntKind.i64 (t10 + 1), ()), ()), h0, h1, ()) else G 0 K12_0 ((((), (), t7, t8, t9, IntKind.wrap IntKind.i64 (t10 + 1), ()), ()), h0, h1, ())
 else
 bif t7 == 0 then
  Option.bind (F57 (h1, Prod.fst (Prod.snd (Prod.snd h0)), ())) fun (y : Bool × Unit) =>
   bif Prod.fst y then Option.bind (F23 ()) fun (y : Bool × Unit) => some (Prod.fst y, ()) else bif t7 == 9 then Option.bind (F36 (0, 0, ())) fun (y : Sp × Unit) => bif eqD (Ty.struct [Ty.int IntKind.i64, Ty.int IntKind.i64]) h1 (Prod.fst y) then Option.bind (F23 ()) fun (y : Bool × Unit) => some (Prod.fst y, ()) else some (false, ()) else some (false, ())
 else bif t7 == 9 then Option.bind (F36 (0, 0, ())) fun (y : Sp × Unit) => bif eqD (Ty.struct [Ty.int IntKind.i64, Ty.int IntKind.i64]) h1 (Prod.fst y) then Option.bind (F23 ()) fun (y : Bool × Unit) => some (Prod.fst y, ()) else some (false, ()) else some (false, ()) := by kernel_rfl
noncomputable def F12 : denL [tSe] → Option (denL [.bool]) := ghost cx58 S12 6000 12 [tSe] [.bool]
noncomputable abbrev T12_0 (t7 : Int) (t8 : Int) (t9 : Bool) (t10 : Int) (h0 : Se) (h1 : Sp) (f : Nat) : Option (denL [.bool]) := iter cx58 S12 [.bool] 6000 f 0 K12_0 ((((), ((), (t7, (t8, (t9, (t10, ())))))), ()), (h0, (h1, ())))
theorem U12_0 (t7 : Int) (t8 : Int) (t9 : Bool) (t10 : Int) (h0 : Se) (h1 : Sp) {y : denL [.bool]} (h : Ev fun k => seg cx58 S12 [.bool] 6000 some (iter cx58 S12 [.bool] 6000 k) 0 K12_0 ((((), ((), (t7, (t8, (t9, (t10, ())))))), ()), (h0, (h1, ()))) = some y) : Ev fun k => T12_0 t7 t8 t9 t10 h0 h1 k = some y := iter_ev h
theorem R12_0 (t7 : Int) (t8 : Int) (t9 : Bool) (t10 : Int) (h0 : Se) (h1 : Sp) {y : denL [.bool]} (h : Ev fun k =>
 (bif decide (t10 < (↑(List.length (Prod.fst h0)) : Int)) then
 Option.bind (F24 (h0, t10, ())) fun (y : Int × Int × Int × Unit) =>
   bif Prod.fst (Prod.snd (Prod.snd y)) != 0 then some (false, ())
   else
    bif Prod.fst y == 1 then
     bif Prod.fst (Prod.snd y) != 2 then some (false, ())
     else
      bif Prod.fst (Prod.snd y) == 1 then
       bif Prod.fst y != 2 then some (false, ())
       else
        bif t10 == 0 then
         bif Prod.fst y != 2 then some (false, ())
         else
          bif Prod.fst (Prod.snd y) != 2 then some (false, ())
          else
           bif Prod.fst y == 1 then
            bif t9 then
             bif t7 != 0 then some (false, ())
             else
              Option.bind (F42 (IntKind.wrap IntKind.i64 (t10 - t8), Prod.fst (Prod.snd (Prod.snd h0)), ())) fun (y_1 : Bool × Unit) =>
               bif !Prod.fst y_1 then some (false, ())
               else Option.bind (F42 (IntKind.wrap IntKind.i64 (t10 - t8), h1, ())) fun (y_2 : Bool × Unit) => bif !Prod.fst y_2 then some (false, ()) else bif Prod.fst y == 0 then T12_0 t7 t10 false (IntKind.wrap IntKind.i64 (t10 + 1)) h0 h1 k else T12_0 t7 t10 true (IntKind.wrap IntKind.i64 (t10 + 1)) h0 h1 k
            else bif Prod.fst y == 0 then T12_0 t7 t10 false (IntKind.wrap IntKind.i64 (t10 + 1)) h0 h1 k else T12_0 t7 t10 true (IntKind.wrap IntKind.i64 (t10 + 1)) h0 h1 k
           else bif Prod.fst y == 0 then T12_0 t7 t8 false (IntKind.wrap IntKind.i64 (t10 + 1)) h0 h1 k else T12_0 t7 t8 t9 (IntKind.wrap IntKind.i64 (t10 + 1)) h0 h1 k
        else
         bif t10 == IntKind.wrap IntKind.i64 ((↑(List.length (Prod.fst h0)) : Int) - 1) then
          bif Prod.fst y != 2 then some (false, ())
          else
           bif Prod.fst (Prod.snd y) != 2 then some (false, ())
           else
            bif Prod.fst y == 1 then
             bif t9 then
              bif t7 != 0 then some (false, ())
              else
               Option.bind (F42 (IntKind.wrap IntKind.i64 (t10 - t8), Prod.fst (Prod.snd (Prod.snd h0)), ())) fun (y_1 : Bool × Unit) =>
                bif !Prod.fst y_1 then some (false, ())
                else Option.bind (F42 (IntKind.wrap IntKind.i64 (t10 - t8), h1, ())) fun (y_2 : Bool × Unit) => bif !Prod.fst y_2 then some (false, ()) else bif Prod.fst y == 0 then T12_0 t7 t10 false (IntKind.wrap IntKind.i64 (t10 + 1)) h0 h1 k else T12_0 t7 t10 true (IntKind.wrap IntKind.i64 (t10 + 1)) h0 h1 k
             else bif Prod.fst y == 0 then T12_0 t7 t10 false (IntKind.wrap IntKind.i64 (t10 + 1)) h0 h1 k else T12_0 t7 t10 true (IntKind.wrap IntKind.i64 (t10 + 1)) h0 h1 k
            else bif Prod.fst y == 0 then T12_0 t7 t8 false (IntKind.wrap IntKind.i64 (t10 + 1)) h0 h1 k else T12_0 t7 t8 t9 (IntKind.wrap IntKind.i64 (t10 + 1)) h0 h1 k
         else
          bif Prod.fst y == 1 then
           bif t9 then
            bif t7 != 0 then some (false, ())
            else
             Option.bind (F42 (IntKind.wrap IntKind.i64 (t10 - t8), Prod.fst (Prod.snd (Prod.snd h0)), ())) fun (y_1 : Bool × Unit) =>
              bif !Prod.fst y_1 then some (false, ())
              else Option.bind (F42 (IntKind.wrap IntKind.i64 (t10 - t8), h1, ())) fun (y_2 : Bool × Unit) => bif !Prod.fst y_2 then some (false, ()) else bif Prod.fst y == 0 then T12_0 t7 t10 false (IntKind.wrap IntKind.i64 (t10 + 1)) h0 h1 k else T12_0 t7 t10 true (IntKind.wrap IntKind.i64 (t10 + 1)) h0 h1 k
           else bif Prod.fst y == 0 then T12_0 t7 t10 false (IntKind.wrap IntKind.i64 (t10 + 1)) h0 h1 k else T12_0 t7 t10 true (IntKind.wrap IntKind.i64 (t10 + 1)) h0 h1 k
          else bif Prod.fst y == 0 then T12_0 t7 t8 false (IntKind.wrap IntKind.i64 (t10 + 1)) h0 h1 k else T12_0 t7 t8 t9 (IntKind.wrap IntKind.i64 (t10 + 1)) h0 h1 k
      else
       bif t10 == 0 then
        bif Prod.fst y != 2 then some (false, ())
        else
         bif Prod.fst (Prod.snd y) != 2 then some (false, ())
         else
          bif Prod.fst y == 1 then
           bif t9 then
            bif t7 != 0 then some (false, ())
            else
             Option.bind (F42 (IntKind.wrap IntKind.i64 (t10 - t8), Prod.fst (Prod.snd (Prod.snd h0)), ())) fun (y_1 : Bool × Unit) =>
              bif !Prod.fst y_1 then some (false, ())
              else Option.bind (F42 (IntKind.wrap IntKind.i64 (t10 - t8), h1, ())) fun (y_2 : Bool × Unit) => bif !Prod.fst y_2 then some (false, ()) else bif Prod.fst y == 0 then T12_0 t7 t10 false (IntKind.wrap IntKind.i64 (t10 + 1)) h0 h1 k else T12_0 t7 t10 true (IntKind.wrap IntKind.i64 (t10 + 1)) h0 h1 k
           else bif Prod.fst y == 0 then T12_0 t7 t10 false (IntKind.wrap IntKind.i64 (t10 + 1)) h0 h1 k else T12_0 t7 t10 true (IntKind.wrap IntKind.i64 (t10 + 1)) h0 h1 k
          else bif Prod.fst y == 0 then T12_0 t7 t8 false (IntKind.wrap IntKind.i64 (t10 + 1)) h0 h1 k else T12_0 t7 t8 t9 (IntKind.wrap IntKind.i64 (t10 + 1)) h0 h1 k
       else
        bif t10 == IntKind.wrap IntKind.i64 ((↑(List.length (Prod.fst h0)) : Int) - 1) then
         bif Prod.fst y != 2 then some (false, ())
         else
          bif Prod.fst (Prod.snd y) != 2 then some (false, ())
          else
           bif Prod.fst y == 1 then
            bif t9 then
             bif t7 != 0 then some (false, ())
             else
              Option.bind (F42 (IntKind.wrap IntKind.i64 (t10 - t8), Prod.fst (Prod.snd (Prod.snd h0)), ())) fun (y_1 : Bool × Unit) =>
               bif !Prod.fst y_1 then some (false, ())
               else Option.bind (F42 (IntKind.wrap IntKind.i64 (t10 - t8), h1, ())) fun (y_2 : Bool × Unit) => bif !Prod.fst y_2 then some (false, ()) else bif Prod.fst y == 0 then T12_0 t7 t10 false (IntKind.wrap IntKind.i64 (t10 + 1)) h0 h1 k else T12_0 t7 t10 true (IntKind.wrap IntKind.i64 (t10 + 1)) h0 h1 k
            else bif Prod.fst y == 0 then T12_0 t7 t10 false (IntKind.wrap IntKind.i64 (t10 + 1)) h0 h1 k else T12_0 t7 t10 true (IntKind.wrap IntKind.i64 (t10 + 1)) h0 h1 k
           else bif Prod.fst y == 0 then T12_0 t7 t8 false (IntKind.wrap IntKind.i64 (t10 + 1)) h0 h1 k else T12_0 t7 t8 t9 (IntKind.wrap IntKind.i64 (t10 + 1)) h0 h1 k
        else
         bif Prod.fst y == 1 then
          bif t9 then
           bif t7 != 0 then some (false, ())
           else
            Option.bind (F42 (IntKind.wrap IntKind.i64 (t10 - t8), Prod.fst (Prod.snd (Prod.snd h0)), ())) fun (y_1 : Bool × Unit) =>
             bif !Prod.fst y_1 then some (false, ())
             else Option.bind (F42 (IntKind.wrap IntKind.i64 (t10 - t8), h1, ())) fun (y_2 : Bool × Unit) => bif !Prod.fst y_2 then some (false, ()) else bif Prod.fst y == 0 then T12_0 t7 t10 false (IntKind.wrap IntKind.i64 (t10 + 1)) h0 h1 k else T12_0 t7 t10 true (IntKind.wrap IntKind.i64 (t10 + 1)) h0 h1 k
          else bif Prod.fst y == 0 then T12_0 t7 t10 false (IntKind.wrap IntKind.i64 (t10 + 1)) h0 h1 k else T12_0 t7 t10 true (IntKind.wrap IntKind.i64 (t10 + 1)) h0 h1 k
         else bif Prod.fst y == 0 then T12_0 t7 t8 false (IntKind.wrap IntKind.i64 (t10 + 1)) h0 h1 k else T12_0 t7 t8 t9 (IntKind.wrap IntKind.i64 (t10 + 1)) h0 h1 k
    else
     bif Prod.fst (Prod.snd y) == 1 then
      bif Prod.fst y != 2 then some (false, ())
      else
       bif t10 == 0 then
        bif Prod.fst y != 2 then some (false, ())
        else
         bif Prod.fst (Prod.snd y) != 2 then some (false, ())
         else
          bif Prod.fst y == 1 then
           bif t9 then
            bif t7 != 0 then some (false, ())
            else
             Option.bind (F42 (IntKind.wrap IntKind.i64 (t10 - t8), Prod.fst (Prod.snd (Prod.snd h0)), ())) fun (y_1 : Bool × Unit) =>
              bif !Prod.fst y_1 then some (false, ())
              else Option.bind (F42 (IntKind.wrap IntKind.i64 (t10 - t8), h1, ())) fun (y_2 : Bool × Unit) => bif !Prod.fst y_2 then some (false, ()) else bif Prod.fst y == 0 then T12_0 t7 t10 false (IntKind.wrap IntKind.i64 (t10 + 1)) h0 h1 k else T12_0 t7 t10 true (IntKind.wrap IntKind.i64 (t10 + 1)) h0 h1 k
           else bif Prod.fst y == 0 then T12_0 t7 t10 false (IntKind.wrap IntKind.i64 (t10 + 1)) h0 h1 k else T12_0 t7 t10 true (IntKind.wrap IntKind.i64 (t10 + 1)) h0 h1 k
          else bif Prod.fst y == 0 then T12_0 t7 t8 false (IntKind.wrap IntKind.i64 (t10 + 1)) h0 h1 k else T12_0 t7 t8 t9 (IntKind.wrap IntKind.i64 (t10 + 1)) h0 h1 k
       else
        bif t10 == IntKind.wrap IntKind.i64 ((↑(List.length (Prod.fst h0)) : Int) - 1) then
         bif Prod.fst y != 2 then some (false, ())
         else
          bif Prod.fst (Prod.snd y) != 2 then some (false, ())
          else
           bif Prod.fst y == 1 then
            bif t9 then
             bif t7 != 0 then some (false, ())
             else
              Option.bind (F42 (IntKind.wrap IntKind.i64 (t10 - t8), Prod.fst (Prod.snd (Prod.snd h0)), ())) fun (y_1 : Bool × Unit) =>
               bif !Prod.fst y_1 then some (false, ())
               else Option.bind (F42 (IntKind.wrap IntKind.i64 (t10 - t8), h1, ())) fun (y_2 : Bool × Unit) => bif !Prod.fst y_2 then some (false, ()) else bif Prod.fst y == 0 then T12_0 t7 t10 false (IntKind.wrap IntKind.i64 (t10 + 1)) h0 h1 k else T12_0 t7 t10 true (IntKind.wrap IntKind.i64 (t10 + 1)) h0 h1 k
            else bif Prod.fst y == 0 then T12_0 t7 t10 false (IntKind.wrap IntKind.i64 (t10 + 1)) h0 h1 k else T12_0 t7 t10 true (IntKind.wrap IntKind.i64 (t10 + 1)) h0 h1 k
           else bif Prod.fst y == 0 then T12_0 t7 t8 false (IntKind.wrap IntKind.i64 (t10 + 1)) h0 h1 k else T12_0 t7 t8 t9 (IntKind.wrap IntKind.i64 (t10 + 1)) h0 h1 k
        else
         bif Prod.fst y == 1 then
          bif t9 then
           bif t7 != 0 then some (false, ())
           else
            Option.bind (F42 (IntKind.wrap IntKind.i64 (t10 - t8), Prod.fst (Prod.snd (Prod.snd h0)), ())) fun (y_1 : Bool × Unit) =>
             bif !Prod.fst y_1 then some (false, ())
             else Option.bind (F42 (IntKind.wrap IntKind.i64 (t10 - t8), h1, ())) fun (y_2 : Bool × Unit) => bif !Prod.fst y_2 then some (false, ()) else bif Prod.fst y == 0 then T12_0 t7 t10 false (IntKind.wrap IntKind.i64 (t10 + 1)) h0 h1 k else T12_0 t7 t10 true (IntKind.wrap IntKind.i64 (t10 + 1)) h0 h1 k
          else bif Prod.fst y == 0 then T12_0 t7 t10 false (IntKind.wrap IntKind.i64 (t10 + 1)) h0 h1 k else T12_0 t7 t10 true (IntKind.wrap IntKind.i64 (t10 + 1)) h0 h1 k
         else bif Prod.fst y == 0 then T12_0 t7 t8 false (IntKind.wrap IntKind.i64 (t10 + 1)) h0 h1 k else T12_0 t7 t8 t9 (IntKind.wrap IntKind.i64 (t10 + 1)) h0 h1 k
     else
      bif t10 == 0 then
       bif Prod.fst y != 2 then some (false, ())
       else
        bif Prod.fst (Prod.snd y) != 2 then some (false, ())
        else
         bif Prod.fst y == 1 then
          bif t9 then
           bif t7 != 0 then some (false, ())
           else
            Option.bind (F42 (IntKind.wrap IntKind.i64 (t10 - t8), Prod.fst (Prod.snd (Prod.snd h0)), ())) fun (y_1 : Bool × Unit) =>
             bif !Prod.fst y_1 then some (false, ())
             else Option.bind (F42 (IntKind.wrap IntKind.i64 (t10 - t8), h1, ())) fun (y_2 : Bool × Unit) => bif !Prod.fst y_2 then some (false, ()) else bif Prod.fst y == 0 then T12_0 t7 t10 false (IntKind.wrap IntKind.i64 (t10 + 1)) h0 h1 k else T12_0 t7 t10 true (IntKind.wrap IntKind.i64 (t10 + 1)) h0 h1 k
          else bif Prod.fst y == 0 then T12_0 t7 t10 false (IntKind.wrap IntKind.i64 (t10 + 1)) h0 h1 k else T12_0 t7 t10 true (IntKind.wrap IntKind.i64 (t10 + 1)) h0 h1 k
         else bif Prod.fst y == 0 then T12_0 t7 t8 false (IntKind.wrap IntKind.i64 (t10 + 1)) h0 h1 k else T12_0 t7 t8 t9 (IntKind.wrap IntKind.i64 (t10 + 1)) h0 h1 k
      else
       bif t10 == IntKind.wrap IntKind.i64 ((↑(List.length (Prod.fst h0)) : Int) - 1) then
        bif Prod.fst y != 2 then some (false, ())
        else
         bif Prod.fst (Prod.snd y) != 2 then some (false, ())
         else
          bif Prod.fst y == 1 then
           bif t9 then
            bif t7 != 0 then some (false, ())
            else
             Option.bind (F42 (IntKind.wrap IntKind.i64 (t10 - t8), Prod.fst (Prod.snd (Prod.snd h0)), ())) fun (y_1 : Bool × Unit) =>
              bif !Prod.fst y_1 then some (false, ())
              else Option.bind (F42 (IntKind.wrap IntKind.i64 (t10 - t8), h1, ())) fun (y_2 : Bool × Unit) => bif !Prod.fst y_2 then some (false, ()) else bif Prod.fst y == 0 then T12_0 t7 t10 false (IntKind.wrap IntKind.i64 (t10 + 1)) h0 h1 k else T12_0 t7 t10 true (IntKind.wrap IntKind.i64 (t10 + 1)) h0 h1 k
           else bif Prod.fst y == 0 then T12_0 t7 t10 false (IntKind.wrap IntKind.i64 (t10 + 1)) h0 h1 k else T12_0 t7 t10 true (IntKind.wrap IntKind.i64 (t10 + 1)) h0 h1 k
          else bif Prod.fst y == 0 then T12_0 t7 t8 false (IntKind.wrap IntKind.i64 (t10 + 1)) h0 h1 k else T12_0 t7 t8 t9 (IntKind.wrap IntKind.i64 (t10 + 1)) h0 h1 k
       else
        bif Prod.fst y == 1 then
         bif t9 then
          bif t7 != 0 then some (false, ())
          else
           Option.bind (F42 (IntKind.wrap IntKind.i64 (t10 - t8), Prod.fst (Prod.snd (Prod.snd h0)), ())) fun (y_1 : Bool × Unit) =>
            bif !Prod.fst y_1 then some (false, ())
            else Option.bind (F42 (IntKind.wrap IntKind.i64 (t10 - t8), h1, ())) fun (y_2 : Bool × Unit) => bif !Prod.fst y_2 then some (false, ()) else bif Prod.fst y == 0 then T12_0 t7 t10 false (IntKind.wrap IntKind.i64 (t10 + 1)) h0 h1 k else T12_0 t7 t10 true (IntKind.wrap IntKind.i64 (t10 + 1)) h0 h1 k
         else bif Prod.fst y == 0 then T12_0 t7 t10 false (IntKind.wrap IntKind.i64 (t10 + 1)) h0 h1 k else T12_0 t7 t10 true (IntKind.wrap IntKind.i64 (t10 + 1)) h0 h1 k
        else bif Prod.fst y == 0 then T12_0 t7 t8 false (IntKind.wrap IntKind.i64 (t10 + 1)) h0 h1 k else T12_0 t7 t8 t9 (IntKind.wrap IntKind.i64 (t10 + 1)) h0 h1 k
 else
 bif t7 == 0 then
   Option.bind (F57 (h1, Prod.fst (Prod.snd (Prod.snd h0)), ())) fun (y : Bool × Unit) =>
    bif Prod.fst y then Option.bind (F23 ()) fun (y : Bool × Unit) => some (Prod.fst y, ()) else bif t7 == 9 then Option.bind (F36 (0, 0, ())) fun (y : Sp × Unit) => bif eqD (Ty.struct [Ty.int IntKind.i64, Ty.int IntKind.i64]) h1 (Prod.fst y) then Option.bind (F23 ()) fun (y : Bool × Unit) => some (Prod.fst y, ()) else some (false, ()) else some (false, ())
 else bif t7 == 9 then Option.bind (F36 (0, 0, ())) fun (y : Sp × Unit) => bif eqD (Ty.struct [Ty.int IntKind.i64, Ty.int IntKind.i64]) h1 (Prod.fst y) then Option.bind (F23 ()) fun (y : Bool × Unit) => some (Prod.fst y, ()) else some (false, ()) else some (false, ()) : Option (denL [.bool])) = some y) : Ev fun k => T12_0 t7 t8 t9 t10 h0 h1 k = some y := U12_0 _ _ _ _ _ _ (Ev.eq (fun _ => Q12_0 _ _ _ _ _ _ _) h)
theorem N12 (t0 : Se) {y : denL [.bool]} (h : Ev fun k =>
 (Option.bind (F51 (t0, ())) fun (y : Bool × Unit) =>
 bif !Prod.fst y then Option.bind (F24 (t0, 0, ())) fun (y : Int × Int × Int × Unit) => bif Prod.fst (Prod.snd (Prod.snd y)) != 0 then Option.bind (F23 ()) fun (y : Bool × Unit) => some (Prod.fst y, ()) else some (false, ()) else Option.bind (F26 (t0, ())) fun (y : Sp × Int × Unit) => T12_0 (Prod.fst (Prod.snd y)) (-1) false 0 t0 (Prod.fst y) k : Option (denL [.bool])) = some y) : F12 (t0, ()) = some y := ghost_eq (Ev.eq (fun _ => E12 _ _) h)
end Go.Proofs.YtkbephbhajplhaaDoor
/- CycleApart: maxima, and how far they are apart. Conditions: none. -/
namespace Go.Proofs.YtkbephbhajplhaaDoor
open Go Go.Gh Go.Proofs
theorem L12 (s : Se) : F12 ((s, ()) : Se × Unit) = some (true, ()) := by
 refine N12 _ ?_
 rw [L51]
 simp only [Option.bind_some]
 cases ha : alvB s with
 | false =>
  have he := alvB_not ha 0 [0]
  have e1 : (turnsP s 0).2.2.1 = errP s 0 [0] := by unfold turnsP; rw [if_neg he]
  rw [L24, L23]
  simp only [Bool.not_false, cond_true, Option.bind_some]
  rw [e1, show (errP s 0 [0] != 0) = true from bne_iff_ne.2 he]
  exact Ev.all fun _ => by first | rfl | trivial
 | true =>
  have h := alvB_iff.1 ha
  have h7 := h.ok.hi
  have h3 := h.ok.lo
  rw [L26]
  simp only [Bool.not_true, cond_false, Option.bind_some]
  have fin : ∀ (l4 : Int) (clear : Bool), Ev fun k => T12_0 (gapsP s).2.1 l4 clear (s.1.length : Int) s (gapsP s).1 k = some (true, ()) := by
   intro l4 clear
   refine R12_0 _ _ _ _ _ _ ?_
   rw [dec_f (by omega)]
   simp only [cond_false]
   rw [h.gaps]
   rcases spanH (gapsR_bd h.ok.hi) with ⟨_, e⟩ | ⟨x, e, hh⟩
   ·rw [e, L36, L23]
    simp only [Option.bind_some, eqSp]
    exact Ev.all fun _ => by first | rfl | trivial
   ·rw [e]
    have b1 := gapsR_in _ hh.lo
    have b2 := gapsR_in _ hh.hi
    unfold inGap at b1 b2
    rw [Bool.and_eq_true, decide_eq_true_eq, decide_eq_true_eq] at b1 b2
    rw [L57, dec_t (show x.1 ≥ s.2.2.1.1 from b1.1), dec_t b2.2, L23]
    exact Ev.all fun _ => by first | rfl | trivial
  have hR := h.some
  have key : ∀ (c i : Nat) (l4 : Int) (clear : Bool), i + c = s.1.length → (clear = true → ∃ l : Nat, l4 = (l : Int) ∧ l < i ∧ (∀ t ∈ truthsR s 0, isTop s.1.length t l = true) ∧ ∀ j, l < j → j < i → ∀ t ∈ truthsR s 0, isTop s.1.length t j = false) →
    Ev fun k => T12_0 (gapsP s).2.1 l4 clear (i : Int) s (gapsP s).1 k = some (true, ()) := by
   intro c
   induction c with
   | zero =>
    intro i l4 clear hi _
    obtain rfl : i = s.1.length := by omega
    exact fin l4 clear
   | succ c ih =>
    intro i l4 clear hi hinv
    have fT : setB (truthsR s 0) (isTop s.1.length · i) = 1 → setB (truthsR s 0) (isBot s.1.length · i) = 2 := fun e => (setB_never hR).2 fun t ht => top_not_bot (setB_must.1 e t ht)
    have fB : setB (truthsR s 0) (isBot s.1.length · i) = 1 → setB (truthsR s 0) (isTop s.1.length · i) = 2 := fun e => (setB_never hR).2 fun t ht => by
     cases hq : isTop s.1.length t i with
     | false => rfl
     | true =>
      have a1 := setB_must.1 e t ht
      have a2 := top_not_bot hq
      rw [a2] at a1; cases a1
    have fE : i = 0 ∨ i + 1 = s.1.length → setB (truthsR s 0) (isTop s.1.length · i) = 2 ∧ setB (truthsR s 0) (isBot s.1.length · i) = 2 := fun e => by
     refine ⟨(setB_never hR).2 fun t _ => ?_, (setB_never hR).2 fun t _ => ?_⟩
     ·rcases e with e | e
      ·subst e; exact top_zero _ _
      ·exact isTop_end (by omega)
     ·rcases e with e | e
      ·subst e; exact bot_zero _ _
      ·exact isBot_end (by omega)
    have iT := setB_in (truthsR s 0) (isTop s.1.length · i)
    have iB := setB_in (truthsR s 0) (isBot s.1.length · i)
    have hv : turnsP s (i : Int) = (setB (truthsR s 0) (isTop s.1.length · i), setB (truthsR s 0) (isBot s.1.length · i), 0, ()) := h.turns (by omega)
    have e0 : IntKind.wrap IntKind.i64 ((s.1.length : Int) - 1) = ((s.1.length - 1 : Nat) : Int) := wrap_pred (by omega) (by omega)
    refine R12_0 _ _ _ _ _ _ ?_
    rw [dec_t (show (i : Int) < (s.1.length : Int) by omega), wrap_succ (n := i) (by omega), L24, hv, e0]
    simp only [cond_true, Option.bind_some]
    have may : ∀ l5, Ev fun k => T12_0 (gapsP s).2.1 l5 false ((i + 1 : Nat) : Int) s (gapsP s).1 k = some (true, ()) := fun l5 => ih (i + 1) l5 false (by omega) (fun e => by cases e)
    have must : (∀ t ∈ truthsR s 0, isTop s.1.length t i = true) → Ev fun k => T12_0 (gapsP s).2.1 (i : Int) true ((i + 1 : Nat) : Int) s (gapsP s).1 k = some (true, ()) := fun ht => ih (i + 1) _ true (by omega) fun _ => ⟨i, rfl, by omega, ht, fun j h1 h2 => by omega⟩
    have never : (∀ t ∈ truthsR s 0, isTop s.1.length t i = false) → Ev fun k => T12_0 (gapsP s).2.1 l4 clear ((i + 1 : Nat) : Int) s (gapsP s).1 k = some (true, ()) := fun ht => ih (i + 1) l4 clear (by omega) fun hc => by
     obtain ⟨l, a1, a2, a3, a4⟩ := hinv hc
     refine ⟨l, a1, by omega, a3, fun j b1 b2 => ?_⟩
     by_cases e : j = i
     ·subst e; exact ht
     ·exact a4 j b1 (by omega)
    have chk : clear = true → (∀ t ∈ truthsR s 0, isTop s.1.length t i = true) → (gapsP s).2.1 = 0 ∧ inGap (gapsP s).1 (IntKind.wrap IntKind.i64 ((i : Int) - l4)) = true ∧ inGap s.2.2.1 (IntKind.wrap IntKind.i64 ((i : Int) - l4)) = true := fun hc ht => by
     obtain ⟨l, rfl, a2, a3, a4⟩ := hinv hc
     rw [wrap_id (x := (i : Int) - (l : Int)) (by omega) (by omega)]
     cases hq : truthsR s 0 with
     | nil => exact absurd hq hR
     | cons t ts =>
      have hm : t ∈ truthsR s 0 := by rw [hq]; simp
      have hg : ((i : Int) - (l : Int)) ∈ gapsL (topsFrom s.1.length t 0) := gaps_next (tops_pair _ _) (mem_tops.2 ⟨by omega, a3 t hm⟩) (mem_tops.2 ⟨by omega, ht t hm⟩) a2 fun j hj ⟨b1, b2⟩ => by
       have := (mem_tops.1 hj).2
       rw [a4 j b1 b2 t hm] at this; cases this
      obtain ⟨g1, g2⟩ := h.gap_in hm hg
      exact ⟨g1, g2, truth_gap hm _ hg⟩
    have mT := @setB_must (truthsR s 0) (isTop s.1.length · i)
    have nT := @setB_never (truthsR s 0) hR (isTop s.1.length · i)
    generalize setB (truthsR s 0) (isTop s.1.length · i) = T at *
    generalize setB (truthsR s 0) (isBot s.1.length · i) = B at *
    have eE : (((i : Int) == 0) = true ∨ ((i : Int) == ((s.1.length - 1 : Nat) : Int)) = true) → T = 2 ∧ B = 2 := fun e => fE (by
     rw [beq_iff_eq, beq_iff_eq] at e; omega)
    rw [L42, L42]
    generalize ((i : Int) == 0) = z1 at eE ⊢
    generalize ((i : Int) == ((s.1.length - 1 : Nat) : Int)) = z2 at eE ⊢
    rcases iT with rfl | rfl | rfl
    ·have hz : z1 = false ∧ z2 = false := by
      cases z1 <;> cases z2 <;> simp at eE ⊢
     rcases iB with rfl | rfl | rfl
     ·rw [hz.1, hz.2]; exact may _
     ·have := fB rfl; omega
     ·rw [hz.1, hz.2]; exact may _
    ·obtain rfl := fT rfl
     have hz : z1 = false ∧ z2 = false := by
      cases z1 <;> cases z2 <;> simp at eE ⊢
     rw [hz.1, hz.2]
     have ht := mT.1 rfl
     have hm := must ht
     cases clear with
     | false => exact hm
     | true =>
      obtain ⟨c1, c2, c3⟩ := chk rfl ht
      rw [c2, c3]
      rw [c1] at hm ⊢
      exact hm
    ·have ht := nT.1 rfl
     have hn := never ht
     rcases iB with rfl | rfl | rfl
     ·have hz : z1 = false ∧ z2 = false := by
       cases z1 <;> cases z2 <;> simp at eE ⊢
      rw [hz.1, hz.2]; exact hn
     ·have hz : z1 = false ∧ z2 = false := by
       cases z1 <;> cases z2 <;> simp at eE ⊢
      rw [hz.1, hz.2]; exact hn
     ·cases z1 <;> cases z2 <;> exact hn
  exact key s.1.length 0 (-1) false (by omega) (fun e => by cases e)
end Go.Proofs.YtkbephbhajplhaaDoor
