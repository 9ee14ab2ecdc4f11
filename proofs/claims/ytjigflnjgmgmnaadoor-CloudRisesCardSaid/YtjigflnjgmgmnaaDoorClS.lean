/- CloudMonths, CloudTops, CloudAsks, CloudWrongs and CloudKnown return true. Conditions: as each lemma states. -/
import Derived.Test.YtjigflnjgmgmnaaDoorClR
import Derived.Test.YtjigflnjgmgmnaaDoorClF
namespace Go.Proofs.YtjigflnjgmgmnaaDoor
open Go Go.Gh Go.Proofs

theorem small_len (c : Int × List Sp × Unit) : ∃ m, F27 ((c, ()) : (Int × List Sp × Unit) × Unit) = some (m, ()) ∧ m.2.1.length ≤ 7 ∧ m.1 = c.1 ∧ m.2.1 = c.2.1.take 7 := by
  by_cases h : (c.2.1.length : Int) > 7
  · refine ⟨(c.1, c.2.1.take 7, ()), ghost_eq (Ev.eq (fun _ => E27 _ _) ?_), by simp only [List.length_take]; omega, rfl, rfl⟩
    rw [dec_t h, dec_t (show (7 : Int) ≤ (c.2.1.length : Int) by omega)]
    exact Ev.all fun _ => by first | rfl | trivial
  · refine ⟨c, ghost_eq (Ev.eq (fun _ => E27 _ _) ?_), by omega, rfl, (List.take_of_length_le (by omega)).symm⟩
    rw [dec_f h]
    exact Ev.all fun _ => by first | rfl | trivial

/-- CloudMonths: Month and Told return what the reference returns. -/
theorem L4 (c : Int × List Sp × Unit) (x : List Int) : F4 ((c, x, ()) : (Int × List Sp × Unit) × List Int × Unit) = some (true, ()) := by
  refine ghost_eq (Ev.eq (fun _ => E4 _ _ _) ?_)
  rw [L23, L24, L25, L26, L22]
  simp only [Option.bind_some, bne_self_eq_false, cond_false, eqD_self, cond_true, beq_self_eq_true, Bool.not_true]
  exact Ev.all fun _ => by first | rfl | trivial

theorem topsP_len (c : Int × List Sp × Unit) : (topsP c).1.length < 1000000 ∧ (topsP c).2.1.length < 1000000 := by
  unfold topsP
  by_cases h : (ent c 0 0).2.1 = 0
  · obtain ⟨hc, _⟩ := ent_ok h
    have h12 := (chk_ok hc).1.l12
    rw [if_neg (by simpa using h)]
    have h1 := numsL_len (sureTop (c, 0, ()) (spn (c, 0, ()) nob)) c.2.1.length
    have h2 := numsL_len (mayTop (c, 0, ()) (spn (c, 0, ()) nob)) c.2.1.length
    exact ⟨by simp only; omega, by simp only; omega⟩
  · rw [if_pos (by simpa using h)]
    exact ⟨Nat.zero_lt_succ _, Nat.zero_lt_succ _⟩
theorem risesP_len (c : Int × List Sp × Unit) : (risesP c).1.length < 1000000 ∧ (risesP c).2.1.length < 1000000 := by
  unfold risesP
  by_cases h : (ent c 0 0).2.1 = 0
  · obtain ⟨hc, _⟩ := ent_ok h
    have h12 := (chk_ok hc).1.l12
    rw [if_neg (by simpa using h)]
    have h1 := numsL_len (sureRise (c, 0, ()) (spn (c, 0, ()) nob)) c.2.1.length
    have h2 := numsL_len (mayRise (c, 0, ()) (spn (c, 0, ()) nob)) c.2.1.length
    exact ⟨by simp only; omega, by simp only; omega⟩
  · rw [if_pos (by simpa using h)]
    exact ⟨Nat.zero_lt_succ _, Nat.zero_lt_succ _⟩

/-- CloudTops: Tops and Rises return what the reference returns. -/
theorem L5 (c : Int × List Sp × Unit) : F5 ((c, ()) : (Int × List Sp × Unit) × Unit) = some (true, ()) := by
  refine ghost_eq (Ev.eq (fun _ => E5 _ _) ?_)
  obtain ⟨m, hm, _⟩ := small_len c
  obtain ⟨t1, t2⟩ := topsP_len m
  obtain ⟨r1, r2⟩ := risesP_len m
  rw [hm]
  simp only [Option.bind_some]
  rw [L28, L29, L31, L32]
  simp only [Option.bind_some]
  rw [L30 _ _ t1, L30 _ _ t2, L30 _ _ r1, L30 _ _ r2, L22]
  simp only [Option.bind_some, decide_true, bne_self_eq_false, cond_false, cond_true, beq_self_eq_true, Bool.not_true]
  exact Ev.all fun _ => by first | rfl | trivial

/-- CloudAsks: Ask returns what the reference returns. -/
theorem L6 (c : Int × List Sp × Unit) : F6 ((c, ()) : (Int × List Sp × Unit) × Unit) = some (true, ()) := by
  refine ghost_eq (Ev.eq (fun _ => E6 _ _) ?_)
  obtain ⟨m, hm, _⟩ := small_len c
  rw [hm]
  simp only [Option.bind_some]
  rw [L33, L34, L22]
  simp only [Option.bind_some, cond_true, beq_self_eq_true]
  exact Ev.all fun _ => by first | rfl | trivial

theorem wrongP_sub (c : Int × List Sp × Unit) : (wrongP c).1.length < 1000000 := by
  unfold wrongP
  split
  · exact Nat.zero_lt_succ _
  · split
    · rename_i h hf
      have hc : (chk c).2.2.1 = 0 := Classical.byContradiction h
      have h12 := (chk_ok hc).1.l12
      rw [wrongN_scan, ← List.range_eq_range'] at hf ⊢
      have hl := numsL_len (isHope c) c.2.1.length
      generalize numsL (isHope c) c.2.1.length = hs at *
      have := ((Few.scan_best (fun l => alive (spn (c, (Few.bitsL l : Int), ()) nob)) (Few.byBits hs)).1 hf).is.1
      have := (Few.mem_byBits.1 this).length_le
      unfold Few.byBits at this
      simp only
      omega
    · decide
/-- CloudWrongs: Wrong returns what the reference returns. -/
theorem L7 (c : Int × List Sp × Unit) : F7 ((c, ()) : (Int × List Sp × Unit) × Unit) = some (true, ()) := by
  refine ghost_eq (Ev.eq (fun _ => E7 _ _) ?_)
  rw [L35, L36]
  simp only [Option.bind_some]
  rw [L30 _ _ (wrongP_sub c), L22]
  simp only [Option.bind_some, decide_true, cond_true, beq_self_eq_true]
  exact Ev.all fun _ => by first | rfl | trivial

theorem B1 : numP (mE 55) 1 = (sp 35 40, 0, ()) := by kernel_rfl
theorem B2 : numP (mE 55) 2 = (sp 45 50, 0, ()) := by kernel_rfl
theorem B3 : wrongP (mE 55) = ([], 0, ()) := by kernel_rfl
/-- CloudKnown: the examples. -/
theorem L8 : F8 () = some (true, ()) := by
  refine ghost_eq (Ev.eq (fun _ => E8 _) ?_)
  rw [L37]
  simp only [Option.bind_some]
  rw [L20 (mE 55) 1, L20 (mE 55) 2, L35 (mE 55), B1, B2, B3, L22]
  simp only [Option.bind_some, L38, eqD_self]
  exact Ev.all fun _ => by first | rfl | trivial
end Go.Proofs.YtjigflnjgmgmnaaDoor
