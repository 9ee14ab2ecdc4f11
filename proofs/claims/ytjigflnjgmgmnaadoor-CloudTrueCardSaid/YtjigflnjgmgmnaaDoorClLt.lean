/- A month whose days tell what is so of numbers. Conditions: as each lemma states. -/
import Derived.Test.YtjigflnjgmgmnaaDoorClHc
namespace Go.Proofs.YtjigflnjgmgmnaaDoor
open Go Go.Gh Go.Proofs Go.Few
def clampP (n : Int) : Int := if (if n < 100 then n else 100) > 0 then (if n < 100 then n else 100) else 0
def trulyV (s : Int) (x : List Int) : Nat → Int
 | 0 => turnP x 0 % 101
 | i + 1 => clampP (trulyV s x i + turnP x (i + 1) % (2 * s + 1) - s)
def trulyL (s : Int) (x : List Int) (n : Nat) : List Int := (List.range n).map (trulyV s x)
theorem clamp_in (n : Int) : 0 ≤ clampP n ∧ clampP n ≤ 100 := by
 unfold clampP
 split <;> split <;> omega
theorem truly_in (s : Int) (x : List Int) : ∀ i, 0 ≤ trulyV s x i ∧ trulyV s x i ≤ 100
 | 0 => by
  have h1 := Int.emod_nonneg (turnP x 0) (show (101 : Int) ≠ 0 by decide)
  have h2 := Int.emod_lt_of_pos (turnP x 0) (show (0 : Int) < 101 by decide)
  unfold trulyV
  omega
 | i + 1 => clamp_in _
theorem truly_step {s : Int} (hs : 0 ≤ s) (x : List Int) (i : Nat) : trulyV s x i - trulyV s x (i + 1) ≤ s ∧ trulyV s x (i + 1) - trulyV s x i ≤ s := by
 have h0 := truly_in s x i
 have h1 := Int.emod_nonneg (turnP x (i + 1)) (show 2 * s + 1 ≠ 0 by omega)
 have h2 := Int.emod_lt_of_pos (turnP x (i + 1)) (show (0 : Int) < 2 * s + 1 by omega)
 show trulyV s x i - clampP _ ≤ s ∧ clampP _ - trulyV s x i ≤ s
 generalize turnP x (i + 1) % (2 * s + 1) = d at *
 generalize trulyV s x i = u at *
 unfold clampP
 split <;> split <;> omega
theorem trulyL_len (s : Int) (x : List Int) (n : Nat) : (trulyL s x n).length = n := by simp [trulyL]
theorem trulyL_get (s : Int) (x : List Int) {n i : Nat} (h : i < n) : (trulyL s x n).getD i 0 = trulyV s x i := by
 rw [getD_lt (by rw [trulyL_len]; exact h)]
 simp [trulyL]
theorem trulyL_succ (s : Int) (x : List Int) (n : Nat) : trulyL s x (n + 1) = trulyL s x n ++ [trulyV s x n] := by simp [trulyL, List.range_succ]
abbrev Mn := Int × List Sp × Unit
def tellD (c : Mn) (x : List Int) (k : Nat) : Sp :=
 if (c.2.1.getD k z0).1 = 1 then (1, (if trulyV c.1 x k - turnP x (k + 7) % 30 > 0 then trulyV c.1 x k - turnP x (k + 7) % 30 else 0), ())
 else if (c.2.1.getD k z0).1 = 2 then (2, trulyV c.1 x k, ())
 else if (c.2.1.getD k z0).1 = 3 then (3, trulyV c.1 x k, ())
 else c.2.1.getD k z0
def tellC (c : Mn) (x : List Int) (m : Nat) : List Sp := (List.range c.2.1.length).map fun k => if k < m then tellD c x k else c.2.1.getD k z0
def tellP (c : Mn) (x : List Int) : Mn := (c.1, tellC c x c.2.1.length, ())
theorem tellC_len (c : Mn) (x : List Int) (m : Nat) : (tellC c x m).length = c.2.1.length := by simp [tellC]
theorem tellC_get (c : Mn) (x : List Int) (m : Nat) {k : Nat} (hk : k < c.2.1.length) (d : Sp) : (tellC c x m).getD k d = if k < m then tellD c x k else c.2.1.getD k z0 := by
 rw [getD_lt (by rw [tellC_len]; exact hk)]
 simp [tellC]
theorem tellC_zero (c : Mn) (x : List Int) : tellC c x 0 = c.2.1 := by
 refine List.ext_getElem (tellC_len _ _ _) fun k h1 h2 => ?_
 have := tellC_get c x 0 h2 z0
 rw [getD_lt h1, if_neg (by omega), getD_lt h2] at this
 exact this
theorem tellC_set (c : Mn) (x : List Int) {m : Nat} : (tellC c x m).set m (tellD c x m) = tellC c x (m + 1) := by
 refine List.ext_getElem (by rw [List.length_set, tellC_len, tellC_len]) fun k h1 h2 => ?_
 rw [tellC_len] at h2
 rw [List.getElem_set]
 have e1 := tellC_get c x m h2 z0
 have e2 := tellC_get c x (m + 1) h2 z0
 rw [getD_lt (by rw [tellC_len]; exact h2)] at e1 e2
 rw [e1, e2]
 by_cases e : m = k
 ·subst e; rw [if_pos rfl, if_pos (by omega)]
 ·rw [if_neg e]
  by_cases h : k < m
  ·rw [if_pos h, if_pos (by omega)]
  ·rw [if_neg h, if_neg (by omega)]
theorem tell_kind (c : Mn) (x : List Int) (k : Nat) : (tellD c x k).1 = (c.2.1.getD k z0).1 := by
 unfold tellD
 split
 ·simp only; omega
 ·split
  ·simp only; omega
  ·split
   ·simp only; omega
   ·rfl
theorem tell_chk {c : Mn} (h : (chk c).2.2.1 = 0) (x : List Int) : (chk (tellP c x)).2.2.1 = 0 := by
 rw [chk_iff] at h ⊢
 obtain ⟨hv, h0, h5⟩ := h
 have hmem : ∀ d ∈ (tellP c x).2.1, ∃ k, k < c.2.1.length ∧ d = tellD c x k := fun d hd => by
  have hd : d ∈ tellC c x c.2.1.length := hd
  unfold tellC at hd
  obtain ⟨k, hk, rfl⟩ := List.mem_map.1 hd
  have hk := List.mem_range.1 hk
  exact ⟨k, hk, if_pos hk⟩
 refine ⟨⟨hv.s0, hv.s20, by show 1 ≤ (tellC c x _).length; rw [tellC_len]; exact hv.l1, by show (tellC c x _).length ≤ 12; rw [tellC_len]; exact hv.l12, fun d hd => ?_⟩, fun d hd hz => ?_, ?_⟩
 ·obtain ⟨k, hk, rfl⟩ := hmem d hd
  have hk' := hv.at k
  have ht := truly_in c.1 x k
  have h1 := Int.emod_nonneg (turnP x (k + 7)) (show (30 : Int) ≠ 0 by decide)
  rw [tell_kind]
  refine ⟨hk'.1, hk'.2.1, ?_⟩
  unfold tellD
  split
  ·simp only; split <;> omega
  ·split
   ·exact ht
   ·split
    ·exact ht
    ·exact hk'.2.2
 ·obtain ⟨k, hk, rfl⟩ := hmem d hd
  rw [tell_kind] at hz
  unfold tellD
  rw [if_neg (by omega), if_neg (by omega), if_neg (by omega)]
  rw [getD_lt hk] at hz ⊢
  exact h0 _ (List.getElem_mem hk) hz
 ·have e : (tellP c x).2.1.countP (fun d => d.1 == 3) = c.2.1.countP fun d => d.1 == 3 := by
   have e1 : (tellP c x).2.1.map (fun d : Sp => d.1) = c.2.1.map fun d : Sp => d.1 := by
    refine List.ext_getElem (by simp only [List.length_map]; exact tellC_len c x _) fun k h1 h2 => ?_
    rw [List.length_map] at h2
    rw [List.getElem_map, List.getElem_map]
    have := tellC_get c x c.2.1.length h2 z0
    rw [getD_lt (by rw [tellC_len]; exact h2), if_pos h2] at this
    show ((tellC c x c.2.1.length)[k]'_).1 = _
    exact (congrArg (fun d : Sp => d.1) this).trans (by rw [tell_kind, getD_lt h2])
   have e2 : ∀ l : List Sp, l.countP (fun d => d.1 == 3) = (l.map fun d : Sp => d.1).countP fun v => v == 3 := fun l => by rw [List.countP_map]; rfl
   rw [e2, e2, e1]
  rw [e]; exact h5
theorem tell_truth {c : Mn} (hv : Valid c) (x : List Int) : Truth (tellP c x, 0, ()) nob (trulyV c.1 x) := by
 refine ⟨fun i hi => ?_, fun i _ => truly_step hv.s0 x i⟩
 have hi : i < c.2.1.length := by
  have : i < (tellC c x c.2.1.length).length := hi
  rwa [tellC_len] at this
 rw [own_c]
 have e : (tellP c x).2.1.getD i z0 = tellD c x i := by
  show (tellC c x c.2.1.length).getD i z0 = _
  rw [tellC_get c x _ hi, if_pos hi]
 rw [e]
 have ht := truly_in c.1 x i
 have hk := hv.at i
 have h1 := Int.emod_nonneg (turnP x (i + 7)) (show (30 : Int) ≠ 0 by decide)
 unfold canD
 rw [tell_kind]
 by_cases k0 : (c.2.1.getD i z0).1 = 0
 ·rw [if_pos k0]; exact ht
 ·rw [if_neg k0]
  by_cases k1 : (c.2.1.getD i z0).1 = 1
  ·rw [if_pos k1]
   unfold tellD
   rw [if_pos k1]
   simp only [sp]
   split <;> omega
  ·rw [if_neg k1]
   unfold tellD
   rw [if_neg k1]
   by_cases k2 : (c.2.1.getD i z0).1 = 2
   ·rw [if_pos k2]; simp only [sp]; omega
   ·rw [if_neg k2, if_pos (by omega)]; simp only [sp]; omega
theorem tell_some {c : Mn} (h : (chk c).2.2.1 = 0) (x : List Int) : someB (tellP c x) = true := by
 have hc := tell_chk h x
 unfold someB
 rw [hc, ((spn_char (tellP c x, 0, ()) nob (chk_ok hc).1 bd_nob).2 _ (tell_truth (chk_ok h).1 x)).1]
 rfl
theorem wrong_no {c : Mn} (h : someB c = true) : wrongP c = ([], 0, ()) := by
 obtain ⟨hc, hv, ha⟩ := some_ok h
 have hok : okB c [] = true := ha
 rcases wrong_spec hc with ⟨r, e, hb⟩ | ⟨_, hn⟩
 ·have := hb.first [] ⟨List.nil_sublist _, hok⟩
  cases r with
  | nil => exact e
  | cons a r => exact absurd (.inl (by simp)) this
 ·rw [hn [] (List.nil_sublist _)] at hok; cases hok
end Go.Proofs.YtjigflnjgmgmnaaDoor
/- 'Truly' and 'Told' of the statements: what they come to. Conditions: as each lemma states. -/
namespace Go.Proofs.YtjigflnjgmgmnaaDoor
open Go Go.Gh Go.Proofs Go.Few
noncomputable abbrev T40_0 (t1 : (List Int)) (t6 : Int) (h0 : (Int × (List (Int × Int × Unit)) × Unit)) (h1 : (List Int)) (f : Nat) : Option (denL [(.slice (.int .i64))]) := iter cxR S40 [(.slice (.int .i64))] 6000 f 0 K40_0 (((t1, ((), ((), (t6, ())))), ()), (h0, (h1, ())))
theorem U40_0 (t1 : (List Int)) (t6 : Int) (h0 : (Int × (List (Int × Int × Unit)) × Unit)) (h1 : (List Int)) {y : denL [(.slice (.int .i64))]} (h : Ev fun k => seg cxR S40 [(.slice (.int .i64))] 6000 some (iter cxR S40 [(.slice (.int .i64))] 6000 k) 0 K40_0 (((t1, ((), ((), (t6, ())))), ()), (h0, (h1, ()))) = some y) : Ev fun k => T40_0 t1 t6 h0 h1 k = some y := iter_ev h
theorem R40_0 (t1 : (List Int)) (t6 : Int) (h0 : (Int × (List (Int × Int × Unit)) × Unit)) (h1 : (List Int)) {y : denL [(.slice (.int .i64))]} (h : Ev fun k =>
 (bif decide (t6 < (↑(List.length (Prod.fst (Prod.snd h0))) : Int)) then
 bif decide (0 ≤ IntKind.wrap IntKind.i64 (t6 - 1)) && decide (IntKind.wrap IntKind.i64 (t6 - 1) < (↑(List.length h1) : Int)) then
  bif decide (Int.toNat (IntKind.wrap IntKind.i64 (t6 - 1)) < List.length h1) then
   Option.bind (F112 (t1, t6, ())) fun (y : Int × Unit) =>
    bif decide (IntKind.wrap IntKind.i64 (IntKind.wrap IntKind.i64 (2 * Prod.fst h0) + 1) = 0) then none
    else
     bif
       decide
        (List.length h1 +
           List.length
            (List.set (List.replicate 1 0) 0
              (if
                 (if IntKind.wrap IntKind.i64 (IntKind.wrap IntKind.i64 (List.getD h1 (Int.toNat (IntKind.wrap IntKind.i64 (t6 - 1))) 0 + Int.tmod (Prod.fst y) (IntKind.wrap IntKind.i64 (IntKind.wrap IntKind.i64 (2 * Prod.fst h0) + 1))) - Prod.fst h0) < 100 then
                    IntKind.wrap IntKind.i64 (IntKind.wrap IntKind.i64 (List.getD h1 (Int.toNat (IntKind.wrap IntKind.i64 (t6 - 1))) 0 + Int.tmod (Prod.fst y) (IntKind.wrap IntKind.i64 (IntKind.wrap IntKind.i64 (2 * Prod.fst h0) + 1))) - Prod.fst h0)
                   else 100) >
                  0 then
                if IntKind.wrap IntKind.i64 (IntKind.wrap IntKind.i64 (List.getD h1 (Int.toNat (IntKind.wrap IntKind.i64 (t6 - 1))) 0 + Int.tmod (Prod.fst y) (IntKind.wrap IntKind.i64 (IntKind.wrap IntKind.i64 (2 * Prod.fst h0) + 1))) - Prod.fst h0) < 100 then
                 IntKind.wrap IntKind.i64 (IntKind.wrap IntKind.i64 (List.getD h1 (Int.toNat (IntKind.wrap IntKind.i64 (t6 - 1))) 0 + Int.tmod (Prod.fst y) (IntKind.wrap IntKind.i64 (IntKind.wrap IntKind.i64 (2 * Prod.fst h0) + 1))) - Prod.fst h0)
                else 100
              else 0)) ≤
          2147483648) then
      T40_0 t1 (IntKind.wrap IntKind.i64 (t6 + 1)) h0 (h1 ++
         List.set (List.replicate 1 0) 0
          (if
             (if IntKind.wrap IntKind.i64 (IntKind.wrap IntKind.i64 (List.getD h1 (Int.toNat (IntKind.wrap IntKind.i64 (t6 - 1))) 0 + Int.tmod (Prod.fst y) (IntKind.wrap IntKind.i64 (IntKind.wrap IntKind.i64 (2 * Prod.fst h0) + 1))) - Prod.fst h0) < 100 then
                IntKind.wrap IntKind.i64 (IntKind.wrap IntKind.i64 (List.getD h1 (Int.toNat (IntKind.wrap IntKind.i64 (t6 - 1))) 0 + Int.tmod (Prod.fst y) (IntKind.wrap IntKind.i64 (IntKind.wrap IntKind.i64 (2 * Prod.fst h0) + 1))) - Prod.fst h0)
               else 100) >
              0 then
            if IntKind.wrap IntKind.i64 (IntKind.wrap IntKind.i64 (List.getD h1 (Int.toNat (IntKind.wrap IntKind.i64 (t6 - 1))) 0 + Int.tmod (Prod.fst y) (IntKind.wrap IntKind.i64 (IntKind.wrap IntKind.i64 (2 * Prod.fst h0) + 1))) - Prod.fst h0) < 100 then
             IntKind.wrap IntKind.i64 (IntKind.wrap IntKind.i64 (List.getD h1 (Int.toNat (IntKind.wrap IntKind.i64 (t6 - 1))) 0 + Int.tmod (Prod.fst y) (IntKind.wrap IntKind.i64 (IntKind.wrap IntKind.i64 (2 * Prod.fst h0) + 1))) - Prod.fst h0)
            else 100
          else 0)) k
     else none
  else none
 else none
 else some (h1, ()) : Option (denL [(.slice (.int .i64))])) = some y) : Ev fun k => T40_0 t1 t6 h0 h1 k = some y := U40_0 _ _ _ _ (Ev.eq (fun _ => Q40_0 _ _ _ _ _) h)
theorem N40 (t0 : (Int × (List (Int × Int × Unit)) × Unit)) (t1 : (List Int)) {y : denL [(.slice (.int .i64))]} (h : Ev fun k =>
 (Option.bind (F112 (t1, 0, ())) fun (y : Int × Unit) => T40_0 t1 1 t0 (List.set (List.replicate 1 0) 0 (Int.tmod (Prod.fst y) 101)) k : Option (denL [(.slice (.int .i64))])) = some y) : F40 (t0, (t1, ())) = some y := ghost_eq (Ev.eq (fun _ => E40 _ _ _) h)
theorem L40 (c : Mn) (hv : Valid c) (x : List Int) (hx : ∀ v ∈ x, 0 ≤ v ∧ v ≤ 255) : F40 ((c, x, ()) : Mn × List Int × Unit) = some (trulyL c.1 x c.2.1.length, ()) := by
 have h12 := hv.l12
 have h1 := hv.l1
 have s0 := hv.s0
 have s20 := hv.s20
 have s1 : ∀ v : Int, List.set (List.replicate 1 0) 0 v = [v] := fun _ => rfl
 refine N40 _ _ ?_
 obtain ⟨l0, a0, b0⟩ := L112 x hx 0
 have l0' : F112 ((x, 0, ()) : List Int × Int × Unit) = some (turnP x 0, ()) := l0
 have m0 : Int.tmod (turnP x 0) 101 = turnP x 0 % 101 := Int.tmod_eq_emod_of_nonneg a0
 have wa : IntKind.wrap IntKind.i64 (2 * c.1) = 2 * c.1 := wrap_id (by omega) (by omega)
 have wb : IntKind.wrap IntKind.i64 (2 * c.1 + 1) = 2 * c.1 + 1 := wrap_id (by omega) (by omega)
 have key : ∀ (e k : Nat), k + 1 + e = c.2.1.length → Ev fun f => T40_0 x ((k + 1 : Nat) : Int) c (trulyL c.1 x (k + 1)) f = some (trulyL c.1 x c.2.1.length, ()) := by
  intro e
  induction e with
  | zero =>
   intro k hk
   refine R40_0 _ _ _ _ ?_
   rw [dec_f (by omega), show k + 1 = c.2.1.length by omega]
   exact Ev.all fun _ => rfl
  | succ e ih =>
   intro k hk
   refine R40_0 _ _ _ _ ?_
   have hn := ih (k + 1) (by omega)
   have w1 : IntKind.wrap IntKind.i64 (((k + 1 : Nat) : Int) - 1) = (k : Int) := by rw [wrap_id (by omega) (by omega)]; omega
   obtain ⟨l112, t0, t1⟩ := L112 x hx (k + 1)
   have ht := truly_in c.1 x k
   have m1 : Int.tmod (turnP x (k + 1)) (2 * c.1 + 1) = turnP x (k + 1) % (2 * c.1 + 1) := Int.tmod_eq_emod_of_nonneg t0
   have m2 := Int.emod_nonneg (turnP x (k + 1)) (show 2 * c.1 + 1 ≠ 0 by omega)
   have m3 := Int.emod_lt_of_pos (turnP x (k + 1)) (show 0 < 2 * c.1 + 1 by omega)
   have wc : IntKind.wrap IntKind.i64 (trulyV c.1 x k + turnP x (k + 1) % (2 * c.1 + 1)) = trulyV c.1 x k + turnP x (k + 1) % (2 * c.1 + 1) := wrap_id (by omega) (by omega)
   have wd : IntKind.wrap IntKind.i64 (trulyV c.1 x k + turnP x (k + 1) % (2 * c.1 + 1) - c.1) = trulyV c.1 x k + turnP x (k + 1) % (2 * c.1 + 1) - c.1 := wrap_id (by omega) (by omega)
   rw [trulyL_succ c.1 x (k + 1)] at hn
   rw [dec_t (show ((k + 1 : Nat) : Int) < (c.2.1.length : Int) by omega), w1, trulyL_len, dec_t (show (0 : Int) ≤ (k : Int) by omega), dec_t (show (k : Int) < ((k + 1 : Nat) : Int) by omega), Int.toNat_natCast, dec_t (show k < k + 1 by omega), trulyL_get c.1 x (show k < k + 1 by omega), l112, wa, wb, dec_f (show ¬ (2 * c.1 + 1 = 0) by omega), wrap_succ (n := k + 1) (by omega)]
   simp only [Bool.and_self, cond_true, cond_false, Option.bind_some, m1, wc, wd, s1, List.length_singleton]
   rw [dec_t (show k + 1 + 1 ≤ 2147483648 by omega)]
   exact hn
 rw [l0']
 simp only [Option.bind_some, m0, s1]
 exact key (c.2.1.length - 1) 0 (by omega)
noncomputable abbrev T41_0 (t1 : (List Int)) (t2 : (List Int)) (t7 : Int) (h0_0 : Int) (h1 : (Int × (List (Int × Int × Unit)) × Unit)) (h2 : (List (Int × Int × Unit))) (f : Nat) : Option (denL [(.struct [(.int .i64), (.slice (.struct [(.int .i64), (.int .i64)]))])]) := iter cx40 S41 [(.struct [(.int .i64), (.slice (.struct [(.int .i64), (.int .i64)]))])] 6000 f 0 K41_0 (((t1, (t2, ((), ((), (t7, ()))))), ()), ((h0_0, ((), ())), (h1, (h2, ()))))
theorem U41_0 (t1 : (List Int)) (t2 : (List Int)) (t7 : Int) (h0_0 : Int) (h1 : (Int × (List (Int × Int × Unit)) × Unit)) (h2 : (List (Int × Int × Unit))) {y : denL [(.struct [(.int .i64), (.slice (.struct [(.int .i64), (.int .i64)]))])]} (h : Ev fun k => seg cx40 S41 [(.struct [(.int .i64), (.slice (.struct [(.int .i64), (.int .i64)]))])] 6000 some (iter cx40 S41 [(.struct [(.int .i64), (.slice (.struct [(.int .i64), (.int .i64)]))])] 6000 k) 0 K41_0 (((t1, (t2, ((), ((), (t7, ()))))), ()), ((h0_0, ((), ())), (h1, (h2, ())))) = some y) : Ev fun k => T41_0 t1 t2 t7 h0_0 h1 h2 k = some y := iter_ev h
theorem R41_0 (t1 : (List Int)) (t2 : (List Int)) (t7 : Int) (h0_0 : Int) (h1 : (Int × (List (Int × Int × Unit)) × Unit)) (h2 : (List (Int × Int × Unit))) {y : denL [(.struct [(.int .i64), (.slice (.struct [(.int .i64), (.int .i64)]))])]} (h : Ev fun k =>
 (bif decide (t7 < (↑(List.length h2) : Int)) then
 bif decide (0 ≤ t7) && decide (t7 < (↑(List.length h2) : Int)) then
  bif decide (Int.toNat t7 < List.length h2) then
   bif Prod.fst (List.getD h2 (Int.toNat t7) (0, 0, ())) == 1 then
    bif decide (0 ≤ t7) && decide (t7 < (↑(List.length t1) : Int)) then
     Option.bind (F112 (t2, IntKind.wrap IntKind.i64 (t7 + 7), ())) fun (y : Int × Unit) =>
      bif decide (0 ≤ t7) && decide (t7 < (↑(List.length h2) : Int)) then
       bif decide (Int.toNat t7 < List.length h2) then
        T41_0 t1 t2 (IntKind.wrap IntKind.i64 (t7 + 1)) h0_0 h1 (List.set h2 (Int.toNat t7) (Prod.fst (List.getD h2 (Int.toNat t7) (0, 0, ())), if IntKind.wrap IntKind.i64 (List.getD t1 (Int.toNat t7) 0 - Int.tmod (Prod.fst y) 30) > 0 then IntKind.wrap IntKind.i64 (List.getD t1 (Int.toNat t7) 0 - Int.tmod (Prod.fst y) 30) else 0, ())) k
       else none
      else none
    else none
   else
    bif Prod.fst (List.getD h2 (Int.toNat t7) (0, 0, ())) == 2 then
     bif Prod.fst (List.getD h2 (Int.toNat t7) (0, 0, ())) == 2 then
      bif decide (0 ≤ t7) && decide (t7 < (↑(List.length t1) : Int)) then
       bif decide (0 ≤ t7) && decide (t7 < (↑(List.length h2) : Int)) then bif decide (Int.toNat t7 < List.length h2) then T41_0 t1 t2 (IntKind.wrap IntKind.i64 (t7 + 1)) h0_0 h1 (List.set h2 (Int.toNat t7) (Prod.fst (List.getD h2 (Int.toNat t7) (0, 0, ())), List.getD t1 (Int.toNat t7) 0, ())) k else none else none
      else none
     else bif decide (0 ≤ t7) && decide (t7 < (↑(List.length h2) : Int)) then bif decide (Int.toNat t7 < List.length h2) then T41_0 t1 t2 (IntKind.wrap IntKind.i64 (t7 + 1)) h0_0 h1 (List.set h2 (Int.toNat t7) (List.getD h2 (Int.toNat t7) (0, 0, ()))) k else none else none
    else
     bif Prod.fst (List.getD h2 (Int.toNat t7) (0, 0, ())) == 3 then
      bif decide (0 ≤ t7) && decide (t7 < (↑(List.length t1) : Int)) then
       bif decide (0 ≤ t7) && decide (t7 < (↑(List.length h2) : Int)) then bif decide (Int.toNat t7 < List.length h2) then T41_0 t1 t2 (IntKind.wrap IntKind.i64 (t7 + 1)) h0_0 h1 (List.set h2 (Int.toNat t7) (Prod.fst (List.getD h2 (Int.toNat t7) (0, 0, ())), List.getD t1 (Int.toNat t7) 0, ())) k else none else none
      else none
     else bif decide (0 ≤ t7) && decide (t7 < (↑(List.length h2) : Int)) then bif decide (Int.toNat t7 < List.length h2) then T41_0 t1 t2 (IntKind.wrap IntKind.i64 (t7 + 1)) h0_0 h1 (List.set h2 (Int.toNat t7) (List.getD h2 (Int.toNat t7) (0, 0, ()))) k else none else none
  else none
 else none
 else some ((h0_0, h2, ()), ()) : Option (denL [(.struct [(.int .i64), (.slice (.struct [(.int .i64), (.int .i64)]))])])) = some y) : Ev fun k => T41_0 t1 t2 t7 h0_0 h1 h2 k = some y := U41_0 _ _ _ _ _ _ (Ev.eq (fun _ => Q41_0 _ _ _ _ _ _ _) h)
theorem N41 (t0 : (Int × (List (Int × Int × Unit)) × Unit)) (t1 : (List Int)) (t2 : (List Int)) {y : denL [(.struct [(.int .i64), (.slice (.struct [(.int .i64), (.int .i64)]))])]} (h : Ev fun k =>
 (bif decide (List.length (Prod.fst (Prod.snd t0)) ≤ 2147483648) then T41_0 t1 t2 0 (Prod.fst t0) (0, [], ()) (Prod.fst (Prod.snd t0)) k else none : Option (denL [(.struct [(.int .i64), (.slice (.struct [(.int .i64), (.int .i64)]))])])) = some y) : F41 (t0, (t1, (t2, ()))) = some y := ghost_eq (Ev.eq (fun _ => E41 _ _ _ _) h)
theorem L41 (c : Mn) (hv : Valid c) (x : List Int) (hx : ∀ v ∈ x, 0 ≤ v ∧ v ≤ 255) : F41 ((c, trulyL c.1 x c.2.1.length, x, ()) : Mn × List Int × List Int × Unit) = some (tellP c x, ()) := by
 have h12 := hv.l12
 refine N41 _ _ _ ?_
 rw [dec_t (show c.2.1.length ≤ 2147483648 by omega)]
 have key : ∀ (e k : Nat), k + e = c.2.1.length → ∀ h1, Ev fun f => T41_0 (trulyL c.1 x c.2.1.length) x k c.1 h1 (tellC c x k) f = some (tellP c x, ()) := by
  intro e
  induction e with
  | zero =>
   intro k hk h1
   refine R41_0 _ _ _ _ _ _ ?_
   rw [tellC_len, dec_f (by omega), show k = c.2.1.length by omega]
   exact Ev.all fun _ => rfl
  | succ e ih =>
   intro k hk h1
   have hlt : k < c.2.1.length := by omega
   refine R41_0 _ _ _ _ _ _ ?_
   have hn := ih (k + 1) (by omega) h1
   rw [← tellC_set c x] at hn
   have ht := truly_in c.1 x k
   have h7 : IntKind.wrap IntKind.i64 ((k : Int) + 7) = ((k + 7 : Nat) : Int) := by rw [wrap_id (by omega) (by omega)]; omega
   obtain ⟨l112, t0, t1⟩ := L112 x hx (k + 7)
   have g1 : (tellC c x k).getD k (0, 0, ()) = c.2.1.getD k z0 := by
    rw [tellC_get c x k hlt, if_neg (by omega)]
   have m0 : Int.tmod (turnP x (k + 7)) 30 = turnP x (k + 7) % 30 := Int.tmod_eq_emod_of_nonneg t0
   have m1 := Int.emod_nonneg (turnP x (k + 7)) (show (30 : Int) ≠ 0 by decide)
   have m2 := Int.emod_lt_of_pos (turnP x (k + 7)) (show (0 : Int) < 30 by decide)
   rw [tellC_len, trulyL_len, dec_t (show (k : Int) < (c.2.1.length : Int) by omega), dec_t (show (0 : Int) ≤ (k : Int) by omega), Int.toNat_natCast, dec_t hlt, g1, trulyL_get _ _ hlt, h7, l112, wrap_succ (n := k) (by omega)]
   simp only [Bool.and_self, cond_true, Option.bind_some, m0]
   rw [wrap_id (by omega) (by omega)]
   unfold tellD at hn
   by_cases k1 : (c.2.1.getD k z0).1 = 1
   ·rw [if_pos k1] at hn
    rw [k1]
    exact hn
   ·have e1 : ((c.2.1.getD k z0).1 == 1) = false := by simpa using k1
    rw [if_neg k1] at hn
    rw [e1]
    by_cases k2 : (c.2.1.getD k z0).1 = 2
    ·rw [if_pos k2] at hn
     rw [k2]
     exact hn
    ·have e2 : ((c.2.1.getD k z0).1 == 2) = false := by simpa using k2
     rw [if_neg k2] at hn
     rw [e2]
     by_cases k3 : (c.2.1.getD k z0).1 = 3
     ·rw [if_pos k3] at hn
      rw [k3]
      exact hn
     ·have e3 : ((c.2.1.getD k z0).1 == 3) = false := by simpa using k3
      rw [if_neg k3] at hn
      rw [e3]
      exact hn
 have h := key c.2.1.length 0 (by omega) (0, [], ())
 rw [tellC_zero] at h
 exact h
end Go.Proofs.YtjigflnjgmgmnaaDoor
/- CloudTrue: days that tell what is so of numbers are not denied. Conditions: as each lemma states. -/
namespace Go.Proofs.YtjigflnjgmgmnaaDoor
open Go Go.Gh Go.Proofs Go.Few
def sumU (x : Nat → Int) : Nat → Int
 | 0 => 0
 | n + 1 => sumU x n + x n
theorem sumU_X (x : Nat → Int) : ∀ n, sumU x (n + 1) = sumX x n
 | 0 => by simp only [sumU, sumX]; omega
 | n + 1 => by
  have h := sumU_X x n
  have e : sumU x (n + 1 + 1) = sumU x (n + 1) + x (n + 1) := rfl
  rw [e, h]; rfl
theorem sumU_cap {x : Nat → Int} {m : Nat} (h : ∀ j, j < m → 0 ≤ x j ∧ x j ≤ 100) : ∀ n, n ≤ m → 0 ≤ sumU x n ∧ sumU x n ≤ 100 * (n : Int)
 | 0, _ => by simp only [sumU]; omega
 | n + 1, hn => by
  have h1 := sumU_cap h n (by omega)
  have h2 := h n (by omega)
  simp only [sumU]
  omega
theorem sumX_mono {x y : Nat → Int} : ∀ {i : Nat}, (∀ j, j ≤ i → x j ≤ y j) → sumX x i ≤ sumX y i
 | 0, h => h 0 (Nat.le_refl _)
 | i + 1, h => by
  have h1 := sumX_mono (i := i) fun j hj => h j (by omega)
  have h2 := h (i + 1) (Nat.le_refl _)
  simp only [sumX]
  omega
theorem R9_0 (t7 : (List Int)) (t14 : (List Int)) (t15 : (List Int)) (t17 : (List Int)) (t18 : (List Int)) (t20 : Int) (t21 : Int) (t22 : Int) (h0 : (Int × (List (Int × Int × Unit)) × Unit)) (h1 : (Int × Int × Unit)) (h2 : (Int × Int × Unit)) {y : denL [.bool]} (h : Ev fun k =>
 (bif decide (t22 < (↑(List.length t7) : Int)) then
 bif decide (0 ≤ t22) && decide (t22 < (↑(List.length t7) : Int)) then
  bif decide (0 ≤ t22) && decide (t22 < (↑(List.length t7) : Int)) then T9_0 t7 t14 t15 t17 t18 (IntKind.wrap IntKind.i64 (t20 + List.getD t7 (Int.toNat t22) 0)) (if List.getD t7 (Int.toNat t22) 0 > t21 then List.getD t7 (Int.toNat t22) 0 else t21) (IntKind.wrap IntKind.i64 (t22 + 1)) h0 h1 h2 k else none
 else none
 else Option.bind (F43 (t20, (↑(List.length t7) : Int), ())) fun (y : (Int × Int × Unit) × Unit) => Option.bind (F44 (Prod.fst y, Prod.fst y, h1, h2, ())) fun (y : Bool × Unit) => bif !Prod.fst y then some (false, ()) else T9_1 t7 t14 t15 t17 t18 t21 0 h0 k : Option (denL [.bool])) = some y) : Ev fun k => T9_0 t7 t14 t15 t17 t18 t20 t21 t22 h0 h1 h2 k = some y := U9_0 _ _ _ _ _ _ _ _ _ _ _ (Ev.eq (fun _ => Q9_0 _ _ _ _ _ _ _ _ _ _ _ _) h)
theorem R9_1 (t7 : (List Int)) (t14 : (List Int)) (t15 : (List Int)) (t17 : (List Int)) (t18 : (List Int)) (t21 : Int) (t24 : Int) (h0 : (Int × (List (Int × Int × Unit)) × Unit)) {y : denL [.bool]} (h : Ev fun k =>
 (bif decide (t24 < (↑(List.length t7) : Int)) then
 Option.bind (F20 (h0, t24, ())) fun (y : (Int × Int × Unit) × Int × Unit) =>
  bif Prod.fst (Prod.snd y) != 0 then some (false, ())
  else
   bif decide (0 ≤ t24) && decide (t24 < (↑(List.length t7) : Int)) then
    Option.bind (F45 (List.getD t7 (Int.toNat t24) 0, Prod.fst y, ())) fun (y : Bool × Unit) =>
     bif !Prod.fst y then some (false, ())
     else
      bif decide (0 ≤ t24) && decide (t24 < (↑(List.length t7) : Int)) then
       bif List.getD t7 (Int.toNat t24) 0 == t21 then
        Option.bind (F46 (t15, t24, ())) fun (y : Bool × Unit) =>
         bif !Prod.fst y then some (false, ())
         else
          bif decide (0 ≤ t24) && decide (t24 < (↑(List.length t7) : Int)) then
           bif decide (List.getD t7 (Int.toNat t24) 0 < t21) then
            Option.bind (F46 (t14, t24, ())) fun (y : Bool × Unit) =>
             bif Prod.fst y then some (false, ())
             else
              bif decide (t24 > 0) then
               bif decide (0 ≤ t24) && decide (t24 < (↑(List.length t7) : Int)) then
                bif decide (0 ≤ if IntKind.wrap IntKind.i64 (t24 - 1) > 0 then IntKind.wrap IntKind.i64 (t24 - 1) else 0) && decide ((if IntKind.wrap IntKind.i64 (t24 - 1) > 0 then IntKind.wrap IntKind.i64 (t24 - 1) else 0) < (↑(List.length t7) : Int)) then
                 bif decide (List.getD t7 (Int.toNat t24) 0 > List.getD t7 (Int.toNat (if IntKind.wrap IntKind.i64 (t24 - 1) > 0 then IntKind.wrap IntKind.i64 (t24 - 1) else 0)) 0) then
                  Option.bind (F46 (t18, t24, ())) fun (y : Bool × Unit) =>
                   bif !Prod.fst y then some (false, ())
                   else
                    bif !decide (List.getD t7 (Int.toNat t24) 0 > List.getD t7 (Int.toNat (if IntKind.wrap IntKind.i64 (t24 - 1) > 0 then IntKind.wrap IntKind.i64 (t24 - 1) else 0)) 0) then
                     Option.bind (F46 (t17, t24, ())) fun (y : Bool × Unit) => bif Prod.fst y then some (false, ()) else T9_1 t7 t14 t15 t17 t18 t21 (IntKind.wrap IntKind.i64 (t24 + 1)) h0 k
                    else T9_1 t7 t14 t15 t17 t18 t21 (IntKind.wrap IntKind.i64 (t24 + 1)) h0 k
                 else
                  bif !decide (List.getD t7 (Int.toNat t24) 0 > List.getD t7 (Int.toNat (if IntKind.wrap IntKind.i64 (t24 - 1) > 0 then IntKind.wrap IntKind.i64 (t24 - 1) else 0)) 0) then
                   Option.bind (F46 (t17, t24, ())) fun (y : Bool × Unit) => bif Prod.fst y then some (false, ()) else T9_1 t7 t14 t15 t17 t18 t21 (IntKind.wrap IntKind.i64 (t24 + 1)) h0 k
                  else T9_1 t7 t14 t15 t17 t18 t21 (IntKind.wrap IntKind.i64 (t24 + 1)) h0 k
                else none
               else none
              else Option.bind (F46 (t17, t24, ())) fun (y : Bool × Unit) => bif Prod.fst y then some (false, ()) else T9_1 t7 t14 t15 t17 t18 t21 (IntKind.wrap IntKind.i64 (t24 + 1)) h0 k
           else
            bif decide (t24 > 0) then
             bif decide (0 ≤ t24) && decide (t24 < (↑(List.length t7) : Int)) then
              bif decide (0 ≤ if IntKind.wrap IntKind.i64 (t24 - 1) > 0 then IntKind.wrap IntKind.i64 (t24 - 1) else 0) && decide ((if IntKind.wrap IntKind.i64 (t24 - 1) > 0 then IntKind.wrap IntKind.i64 (t24 - 1) else 0) < (↑(List.length t7) : Int)) then
               bif decide (List.getD t7 (Int.toNat t24) 0 > List.getD t7 (Int.toNat (if IntKind.wrap IntKind.i64 (t24 - 1) > 0 then IntKind.wrap IntKind.i64 (t24 - 1) else 0)) 0) then
                Option.bind (F46 (t18, t24, ())) fun (y : Bool × Unit) =>
                 bif !Prod.fst y then some (false, ())
                 else
                  bif !decide (List.getD t7 (Int.toNat t24) 0 > List.getD t7 (Int.toNat (if IntKind.wrap IntKind.i64 (t24 - 1) > 0 then IntKind.wrap IntKind.i64 (t24 - 1) else 0)) 0) then
                   Option.bind (F46 (t17, t24, ())) fun (y : Bool × Unit) => bif Prod.fst y then some (false, ()) else T9_1 t7 t14 t15 t17 t18 t21 (IntKind.wrap IntKind.i64 (t24 + 1)) h0 k
                  else T9_1 t7 t14 t15 t17 t18 t21 (IntKind.wrap IntKind.i64 (t24 + 1)) h0 k
               else
                bif !decide (List.getD t7 (Int.toNat t24) 0 > List.getD t7 (Int.toNat (if IntKind.wrap IntKind.i64 (t24 - 1) > 0 then IntKind.wrap IntKind.i64 (t24 - 1) else 0)) 0) then Option.bind (F46 (t17, t24, ())) fun (y : Bool × Unit) => bif Prod.fst y then some (false, ()) else T9_1 t7 t14 t15 t17 t18 t21 (IntKind.wrap IntKind.i64 (t24 + 1)) h0 k
                else T9_1 t7 t14 t15 t17 t18 t21 (IntKind.wrap IntKind.i64 (t24 + 1)) h0 k
              else none
             else none
            else Option.bind (F46 (t17, t24, ())) fun (y : Bool × Unit) => bif Prod.fst y then some (false, ()) else T9_1 t7 t14 t15 t17 t18 t21 (IntKind.wrap IntKind.i64 (t24 + 1)) h0 k
          else none
       else
        bif decide (0 ≤ t24) && decide (t24 < (↑(List.length t7) : Int)) then
         bif decide (List.getD t7 (Int.toNat t24) 0 < t21) then
          Option.bind (F46 (t14, t24, ())) fun (y : Bool × Unit) =>
           bif Prod.fst y then some (false, ())
           else
            bif decide (t24 > 0) then
             bif decide (0 ≤ t24) && decide (t24 < (↑(List.length t7) : Int)) then
              bif decide (0 ≤ if IntKind.wrap IntKind.i64 (t24 - 1) > 0 then IntKind.wrap IntKind.i64 (t24 - 1) else 0) && decide ((if IntKind.wrap IntKind.i64 (t24 - 1) > 0 then IntKind.wrap IntKind.i64 (t24 - 1) else 0) < (↑(List.length t7) : Int)) then
               bif decide (List.getD t7 (Int.toNat t24) 0 > List.getD t7 (Int.toNat (if IntKind.wrap IntKind.i64 (t24 - 1) > 0 then IntKind.wrap IntKind.i64 (t24 - 1) else 0)) 0) then
                Option.bind (F46 (t18, t24, ())) fun (y : Bool × Unit) =>
                 bif !Prod.fst y then some (false, ())
                 else
                  bif !decide (List.getD t7 (Int.toNat t24) 0 > List.getD t7 (Int.toNat (if IntKind.wrap IntKind.i64 (t24 - 1) > 0 then IntKind.wrap IntKind.i64 (t24 - 1) else 0)) 0) then
                   Option.bind (F46 (t17, t24, ())) fun (y : Bool × Unit) => bif Prod.fst y then some (false, ()) else T9_1 t7 t14 t15 t17 t18 t21 (IntKind.wrap IntKind.i64 (t24 + 1)) h0 k
                  else T9_1 t7 t14 t15 t17 t18 t21 (IntKind.wrap IntKind.i64 (t24 + 1)) h0 k
               else
                bif !decide (List.getD t7 (Int.toNat t24) 0 > List.getD t7 (Int.toNat (if IntKind.wrap IntKind.i64 (t24 - 1) > 0 then IntKind.wrap IntKind.i64 (t24 - 1) else 0)) 0) then Option.bind (F46 (t17, t24, ())) fun (y : Bool × Unit) => bif Prod.fst y then some (false, ()) else T9_1 t7 t14 t15 t17 t18 t21 (IntKind.wrap IntKind.i64 (t24 + 1)) h0 k
                else T9_1 t7 t14 t15 t17 t18 t21 (IntKind.wrap IntKind.i64 (t24 + 1)) h0 k
              else none
             else none
            else Option.bind (F46 (t17, t24, ())) fun (y : Bool × Unit) => bif Prod.fst y then some (false, ()) else T9_1 t7 t14 t15 t17 t18 t21 (IntKind.wrap IntKind.i64 (t24 + 1)) h0 k
         else
          bif decide (t24 > 0) then
           bif decide (0 ≤ t24) && decide (t24 < (↑(List.length t7) : Int)) then
            bif decide (0 ≤ if IntKind.wrap IntKind.i64 (t24 - 1) > 0 then IntKind.wrap IntKind.i64 (t24 - 1) else 0) && decide ((if IntKind.wrap IntKind.i64 (t24 - 1) > 0 then IntKind.wrap IntKind.i64 (t24 - 1) else 0) < (↑(List.length t7) : Int)) then
             bif decide (List.getD t7 (Int.toNat t24) 0 > List.getD t7 (Int.toNat (if IntKind.wrap IntKind.i64 (t24 - 1) > 0 then IntKind.wrap IntKind.i64 (t24 - 1) else 0)) 0) then
              Option.bind (F46 (t18, t24, ())) fun (y : Bool × Unit) =>
               bif !Prod.fst y then some (false, ())
               else
                bif !decide (List.getD t7 (Int.toNat t24) 0 > List.getD t7 (Int.toNat (if IntKind.wrap IntKind.i64 (t24 - 1) > 0 then IntKind.wrap IntKind.i64 (t24 - 1) else 0)) 0) then Option.bind (F46 (t17, t24, ())) fun (y : Bool × Unit) => bif Prod.fst y then some (false, ()) else T9_1 t7 t14 t15 t17 t18 t21 (IntKind.wrap IntKind.i64 (t24 + 1)) h0 k
                else T9_1 t7 t14 t15 t17 t18 t21 (IntKind.wrap IntKind.i64 (t24 + 1)) h0 k
             else
              bif !decide (List.getD t7 (Int.toNat t24) 0 > List.getD t7 (Int.toNat (if IntKind.wrap IntKind.i64 (t24 - 1) > 0 then IntKind.wrap IntKind.i64 (t24 - 1) else 0)) 0) then Option.bind (F46 (t17, t24, ())) fun (y : Bool × Unit) => bif Prod.fst y then some (false, ()) else T9_1 t7 t14 t15 t17 t18 t21 (IntKind.wrap IntKind.i64 (t24 + 1)) h0 k
              else T9_1 t7 t14 t15 t17 t18 t21 (IntKind.wrap IntKind.i64 (t24 + 1)) h0 k
            else none
           else none
          else Option.bind (F46 (t17, t24, ())) fun (y : Bool × Unit) => bif Prod.fst y then some (false, ()) else T9_1 t7 t14 t15 t17 t18 t21 (IntKind.wrap IntKind.i64 (t24 + 1)) h0 k
        else none
      else none
   else none
 else Option.bind (F22 ()) fun (y : Bool × Unit) => some (Prod.fst y, ()) : Option (denL [.bool])) = some y) : Ev fun k => T9_1 t7 t14 t15 t17 t18 t21 t24 h0 k = some y := U9_1 _ _ _ _ _ _ _ _ (Ev.eq (fun _ => Q9_1 _ _ _ _ _ _ _ _ _) h)
theorem N9 (t0 : (Int × (List (Int × Int × Unit)) × Unit)) (t1 : (List Int)) {y : denL [.bool]} (h : Ev fun k =>
 (Option.bind (F39 (t0, ())) fun (y : Bool × Unit) =>
 bif !Prod.fst y then Option.bind (F35 (t0, ())) fun (y : List Int × Int × Unit) => bif Prod.fst (Prod.snd y) != 0 then Option.bind (F22 ()) fun (y : Bool × Unit) => some (Prod.fst y, ()) else some (false, ())
 else
  Option.bind (F40 (t0, t1, ())) fun (y : List Int × Unit) =>
   Option.bind (F41 (t0, Prod.fst y, t1, ())) fun (y_1 : (Int × List (Int × Int × Unit) × Unit) × Unit) =>
    Option.bind (F35 (Prod.fst y_1, ())) fun (y_2 : List Int × Int × Unit) =>
     Option.bind (F23 (Prod.fst y_1, ())) fun (y_3 : (Int × Int × Unit) × (Int × Int × Unit) × Int × Unit) =>
      Option.bind (F28 (Prod.fst y_1, ())) fun (y_4 : List Int × List Int × Int × Unit) =>
       Option.bind (F31 (Prod.fst y_1, ())) fun (y_5 : List Int × List Int × Int × Unit) =>
        bif Prod.fst (Prod.snd y_2) != 0 then some (false, ())
        else
         bif Prod.fst (Prod.snd (Prod.snd y_3)) != 0 then some (false, ())
         else
          bif Prod.fst (Prod.snd (Prod.snd y_4)) != 0 then some (false, ())
          else
           bif Prod.fst (Prod.snd (Prod.snd y_5)) != 0 then some (false, ())
           else
            bif decide ((↑(List.length (Prod.fst y_2)) : Int) > 0) then some (false, ())
            else
             Option.bind (F42 (Prod.fst y_3, (↑(List.length (Prod.fst (Prod.snd (Prod.fst y_1)))) : Int), ())) fun (y_6 : Bool × Unit) =>
              bif !Prod.fst y_6 then some (false, ())
              else
               Option.bind (F42 (Prod.fst (Prod.snd y_3), (↑(List.length (Prod.fst (Prod.snd (Prod.fst y_1)))) : Int), ())) fun (y_7 : Bool × Unit) => bif !Prod.fst y_7 then some (false, ()) else T9_0 (Prod.fst y) (Prod.fst y_4) (Prod.fst (Prod.snd y_4)) (Prod.fst y_5) (Prod.fst (Prod.snd y_5)) 0 0 0 (Prod.fst y_1) (Prod.fst y_3) (Prod.fst (Prod.snd y_3)) k : Option (denL [.bool])) = some y) : F9 (t0, (t1, ())) = some y := ghost_eq (Ev.eq (fun _ => E9 _ _ _) h)
abbrev tS (z : Mn) : List Int := numsL (sureTop (z, 0, ()) (spn (z, 0, ()) nob)) z.2.1.length
abbrev tM (z : Mn) : List Int := numsL (mayTop (z, 0, ()) (spn (z, 0, ()) nob)) z.2.1.length
abbrev rS (z : Mn) : List Int := numsL (sureRise (z, 0, ()) (spn (z, 0, ()) nob)) z.2.1.length
abbrev rM (z : Mn) : List Int := numsL (mayRise (z, 0, ()) (spn (z, 0, ()) nob)) z.2.1.length
theorem true_two {z : Mn} (hs : someB z = true) {V : Nat → Int} {l : List Int} (hl : l.length = z.2.1.length) (hg : ∀ i, i < z.2.1.length → l.getD i 0 = V i) (ht : Truth (z, 0, ()) nob V) {top : Int} (hle : ∀ j, j < z.2.1.length → V j ≤ top) (hat : top = 0 ∨ ∃ j, j < z.2.1.length ∧ V j = top) :
  ∀ (e i : Nat), i + e = z.2.1.length → Ev fun k => T9_1 l (tS z) (tM z) (rS z) (rM z) top i z k = some (true, ()) := by
 obtain ⟨_, hv, ha⟩ := some_ok hs
 have h12 := hv.l12
 have n1 : (tS z).length ≤ z.2.1.length := numsL_len (sureTop (z, 0, ()) (spn (z, 0, ()) nob)) z.2.1.length
 have n2 : (tM z).length ≤ z.2.1.length := numsL_len (mayTop (z, 0, ()) (spn (z, 0, ()) nob)) z.2.1.length
 have n3 : (rS z).length ≤ z.2.1.length := numsL_len (sureRise (z, 0, ()) (spn (z, 0, ()) nob)) z.2.1.length
 have n4 : (rM z).length ≤ z.2.1.length := numsL_len (mayRise (z, 0, ()) (spn (z, 0, ()) nob)) z.2.1.length
 intro e
 induction e with
 | zero =>
  intro i hi
  refine R9_1 _ _ _ _ _ _ _ _ ?_
  rw [hl, dec_f (by omega), L22]
  exact Ev.all fun _ => by first | rfl | trivial
 | succ e ih =>
  intro i hi
  have hlt : i < z.2.1.length := by omega
  have hn := ih (i + 1) (by omega)
  have hr := truth_range hv ht hlt
  refine R9_1 _ _ _ _ _ _ _ _ ?_
  have hin := ((spn_char (z, 0, ()) nob hv bd_nob).2 V ht).2 i hlt
  simp only [lows, highs] at hin
  have f1 : (V i == top) = true → mayTop (z, 0, ()) (spn (z, 0, ()) nob) i = true := fun h =>
   (mayTop_iff hv ha hlt).2 ⟨V, ht, fun j hj => by have := hle j hj; have := eq_of_beq h; omega⟩
  have f2 : decide (V i < top) = true → sureTop (z, 0, ()) (spn (z, 0, ()) nob) i = false := fun h => by
   have h := of_decide_eq_true h
   cases hst : sureTop (z, 0, ()) (spn (z, 0, ()) nob) i with
   | false => rfl
   | true =>
    have hall := (sureTop_iff hv ha hlt).1 hst V ht
    rcases hat with h0 | ⟨j, hj, hj2⟩
    ·omega
    ·have := hall j hj; omega
  rw [hl, dec_t (show (i : Int) < (z.2.1.length : Int) by omega), dec_t (show (0 : Int) ≤ (i : Int) by omega), L20 z i, num_some hs hlt, Int.toNat_natCast, hg i hlt, wrap_succ (n := i) (by omega), L46 _ (by omega), L46 _ (by omega), L46 _ (by omega), L46 _ (by omega), in_nums hlt, in_nums hlt, in_nums hlt, in_nums hlt]
  simp only [cond_true, Option.bind_some, bne_self_eq_false, cond_false, Bool.and_self]
  rw [L45, dec_t hin.1, dec_t hin.2]
  simp only [Option.bind_some, cond_false, Bool.and_self, Bool.not_true]
  by_cases h0 : i = 0
  ·have f3 : sureRise (z, 0, ()) (spn (z, 0, ()) nob) i = false := by
    cases hst : sureRise (z, 0, ()) (spn (z, 0, ()) nob) i with
    | false => rfl
    | true => have := ((sureRise_iff hv ha hlt).1 hst).1; omega
   rw [dec_f (show ¬ ((i : Int) > 0) by omega), f3]
   generalize (V i == top) = b1 at f1
   generalize decide (V i < top) = b2 at f2
   generalize mayTop (z, 0, ()) (spn (z, 0, ()) nob) i = m1 at f1
   generalize sureTop (z, 0, ()) (spn (z, 0, ()) nob) i = m2 at f2
   cases b1 <;> cases b2 <;> (try rw [f1 rfl]) <;> (try rw [f2 rfl]) <;> exact hn
  ·have w1 : IntKind.wrap IntKind.i64 ((i : Int) - 1) = ((i - 1 : Nat) : Int) := by rw [wrap_id (by omega) (by omega)]; omega
   have w2 : (if ((i - 1 : Nat) : Int) > 0 then ((i - 1 : Nat) : Int) else 0) = ((i - 1 : Nat) : Int) := by split <;> omega
   have f3 : decide (V i > V (i - 1)) = true → mayRise (z, 0, ()) (spn (z, 0, ()) nob) i = true := fun h =>
    (mayRise_iff hv ha hlt).2 ⟨by omega, V, ht, of_decide_eq_true h⟩
   have f4 : decide (V i > V (i - 1)) = false → sureRise (z, 0, ()) (spn (z, 0, ()) nob) i = false := fun h => by
    cases hst : sureRise (z, 0, ()) (spn (z, 0, ()) nob) i with
    | false => rfl
    | true => have := ((sureRise_iff hv ha hlt).1 hst).2 V ht; exact absurd this (of_decide_eq_false h)
   rw [dec_t (show (i : Int) > 0 by omega), w1, w2, dec_t (show (0 : Int) ≤ ((i - 1 : Nat) : Int) by omega), dec_t (show ((i - 1 : Nat) : Int) < (z.2.1.length : Int) by omega), Int.toNat_natCast, hg (i - 1) (by omega)]
   generalize (V i == top) = b1 at f1
   generalize decide (V i < top) = b2 at f2
   generalize decide (V i > V (i - 1)) = b3 at f3 f4
   generalize mayTop (z, 0, ()) (spn (z, 0, ()) nob) i = m1 at f1
   generalize sureTop (z, 0, ()) (spn (z, 0, ()) nob) i = m2 at f2
   generalize mayRise (z, 0, ()) (spn (z, 0, ()) nob) i = m3 at f3
   generalize sureRise (z, 0, ()) (spn (z, 0, ()) nob) i = m4 at f4
   cases b1 <;> cases b2 <;> cases b3 <;> (try rw [f1 rfl]) <;> (try rw [f2 rfl]) <;> (try rw [f3 rfl]) <;> (try rw [f4 rfl]) <;> exact hn
theorem true_one {z : Mn} (hs : someB z = true) {V : Nat → Int} {l : List Int} (hl : l.length = z.2.1.length) (hg : ∀ i, i < z.2.1.length → l.getD i 0 = V i) (ht : Truth (z, 0, ()) nob V) :
  ∀ (e i : Nat) (top : Int), i + e = z.2.1.length → (∀ j, j < i → V j ≤ top) → (top = 0 ∨ ∃ j, j < i ∧ V j = top) → Ev fun k => T9_0 l (tS z) (tM z) (rS z) (rM z) (sumU V i) top i z (lowP (sums (z, 0, ()) nob).1 z.2.1.length) (lowP (sums (z, 0, ()) nob).2.1 z.2.1.length) k = some (true, ()) := by
 obtain ⟨_, hv, ha⟩ := some_ok hs
 have h12 := hv.l12
 have h1 := hv.l1
 have hr : ∀ j, j < z.2.1.length → 0 ≤ V j ∧ V j ≤ 100 := fun j hj => truth_range hv ht hj
 intro e
 induction e with
 | zero =>
  intro i top hi hle hat
  have hi : i = z.2.1.length := by omega
  refine R9_0 _ _ _ _ _ _ _ _ _ _ _ ?_
  have hsum := sumU_cap hr i (by omega)
  have hX : sumU V i = sumX V (z.2.1.length - 1) := by
   rw [← sumU_X, hi, show z.2.1.length - 1 + 1 = z.2.1.length by omega]
  have hin := ((spn_char (z, 0, ()) nob hv bd_nob).2 V ht).2
  obtain ⟨s0, s1, s2, s3⟩ := sums_cap hv ha
  have lo : (sums (z, 0, ()) nob).1 ≤ sumU V i := by
   rw [hX, sums_X (z, 0, ()) nob hv bd_nob]
   exact sumX_mono fun j (hj : j ≤ z.2.1.length - 1) => (hin j (show j < z.2.1.length by omega)).1
  have hi2 : sumU V i ≤ (sums (z, 0, ()) nob).2.1 := by
   rw [hX, sums_X (z, 0, ()) nob hv bd_nob]
   exact sumX_mono fun j (hj : j ≤ z.2.1.length - 1) => (hin j (show j < z.2.1.length by omega)).2
  have l43 : F43 ((sumU V i, (z.2.1.length : Int), ()) : Int × Int × Unit) = some (lowP (sumU V i) z.2.1.length, ()) := by
   obtain ⟨b, hb⟩ := Int.eq_ofNat_of_zero_le hsum.1
   rw [hb]
   exact L43 b z.2.1.length (by omega) (by omega) (by omega)
  rw [hl, dec_f (by omega), l43]
  simp only [cond_false, Option.bind_some]
  rw [L44 _ _ _ _ _ h1 h12 hsum.1 (by omega) hsum.1 (by omega) s0 s1 s2 s3 lo hi2]
  simp only [Option.bind_some, Bool.not_true, cond_false]
  exact true_two hs hl hg ht (fun j hj => hle j (by omega)) (by rw [← hi]; exact hat) z.2.1.length 0 (by omega)
 | succ e ih =>
  intro i top hi hle hat
  have hlt : i < z.2.1.length := by omega
  have hri := hr i hlt
  have hsum := sumU_cap hr i (by omega)
  refine R9_0 _ _ _ _ _ _ _ _ _ _ _ ?_
  have hn := ih (i + 1) (if V i > top then V i else top) (by omega) (fun j hj => by
   by_cases e : j = i
   ·subst e; split <;> omega
   ·have := hle j (by omega); split <;> omega) (by
   by_cases e : V i > top
   ·rw [if_pos e]; exact .inr ⟨i, by omega, rfl⟩
   ·rw [if_neg e]
    rcases hat with h | ⟨j, hj, hj2⟩
    ·exact .inl h
    ·exact .inr ⟨j, by omega, hj2⟩)
  have hs1 : sumU V i + V i = sumU V (i + 1) := rfl
  rw [hl, dec_t (show (i : Int) < (z.2.1.length : Int) by omega), dec_t (show (0 : Int) ≤ (i : Int) by omega), Int.toNat_natCast, hg i hlt, wrap_succ (n := i) (by omega), wrap_id (by omega) (by omega), hs1]
  exact hn
theorem L9 (c : Mn) (x : List Int) (hx : ∀ v ∈ x, 0 ≤ v ∧ v ≤ 255) : F9 ((c, x, ()) : Mn × List Int × Unit) = some (true, ()) := by
 refine N9 _ _ ?_
 rw [L39, L22]
 simp only [Option.bind_some]
 by_cases hc : (chk c).2.2.1 = 0
 ·have hv := (chk_ok hc).1
  have e0 : ((chk c).2.2.1 == 0) = true := by simpa using hc
  rw [e0, L40 c hv x hx]
  simp only [Bool.not_true, cond_false, Option.bind_some]
  rw [L41 c hv x hx]
  simp only [Option.bind_some]
  have hs := tell_some hc x
  have hz : (tellP c x).2.1.length = c.2.1.length := tellC_len c x _
  have ht := tell_truth hv x
  generalize tellP c x = z at hs hz ht ⊢
  obtain ⟨_, zv, za⟩ := some_ok hs
  have h1 := zv.l1
  have h12 := zv.l12
  obtain ⟨s0, s1, s2, s3⟩ := sums_cap zv za
  rw [L35, L23, L28, L31, wrong_no hs, month_some hs, tops_some hs, rises_some hs]
  simp only [Option.bind_some, bne_self_eq_false, cond_false, List.length_nil]
  rw [dec_f (show ¬ (((0 : Nat) : Int) > 0) by omega), L42 _ _ h1 h12 s0 s1, L42 _ _ h1 h12 s2 s3]
  simp only [Option.bind_some, Bool.not_true, cond_false]
  exact true_one hs (by rw [trulyL_len, hz]) (fun i hi => trulyL_get c.1 x (by omega)) ht z.2.1.length 0 0 (by omega) (fun j hj => by omega) (.inl rfl)
 ·have e0 : ((chk c).2.2.1 == 0) = false := by simpa using hc
  have e1 : wrongP c = ([], (chk c).2.2.1, ()) := by unfold wrongP; rw [if_pos hc]
  have e2 : ((chk c).2.2.1 != 0) = true := by simpa using hc
  rw [e0, L35, e1]
  simp only [Bool.not_false, cond_true, Option.bind_some, e2]
  exact Ev.all fun _ => by first | rfl | trivial
end Go.Proofs.YtjigflnjgmgmnaaDoor
