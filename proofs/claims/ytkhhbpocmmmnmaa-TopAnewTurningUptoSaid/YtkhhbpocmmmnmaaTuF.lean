/- What the ghost comes to: the functions of the reference. Conditions: none (equations, each by computation). -/
import Derived.Test.YtkhhbpocmmmnmaaTuE
import Derived.Test.YtkhhbpocmmmnmaaTuRa
namespace Go.Proofs.Ytkhhbpocmmmnmaa
open Go Go.Gh Go.Proofs
def S22 : List Gh.Spec := [{ key := (0, 22, 6, 1), frs := [{ fn := 22, n := 57, regs := [(1, (.dat (.int .i64))), (4, (.ptr 220004 [])), (6, (.dat (.slice (.struct [(.slice (.int .i64)), (.slice (.int .i64))])))), (8, (.ptr 220008 [])), (9, (.dat (.int .i64)))], round := none, defers := [] }], heap := [(220004, .box (.dat tSp) false), (220008, .box (.dat tSp) false)] }]
noncomputable def F22 : denL [tSu, (.int .i64)] → Option (denL [tSp, (.int .i64)]) := ghost cx30 S22 6000 22 [tSu, (.int .i64)] [tSp, (.int .i64)]
noncomputable def C22 : Con := ⟨[tSu, (.int .i64)], [tSp, (.int .i64)], F22⟩
noncomputable def cx22 : Ctx := cx30.add 22 C22
def S24 : List Gh.Spec := [{ key := (0, 24, 11, 1), frs := [{ fn := 24, n := 71, regs := [(1, (.dat (.int .i64))), (2, (.dat (.int .i64))), (9, (.dat (.slice (.struct [(.slice (.int .i64)), (.slice (.int .i64))])))), (10, (.dat (.int .i64))), (11, (.dat (.int .i64)))], round := none, defers := [] }], heap := [] }]
noncomputable def F24 : denL [tSu, (.int .i64), (.int .i64)] → Option (denL [(.int .i64), (.int .i64)]) := ghost cx22 S24 6000 24 [tSu, (.int .i64), (.int .i64)] [(.int .i64), (.int .i64)]
noncomputable def C24 : Con := ⟨[tSu, (.int .i64), (.int .i64)], [(.int .i64), (.int .i64)], F24⟩
noncomputable def cx24 : Ctx := cx22.add 24 C24
def S27 : List Gh.Spec := [{ key := (0, 27, 8, 1), frs := [{ fn := 27, n := 50, regs := [(2, (.ptr 270002 [])), (7, (.dat (.slice (.struct [(.slice (.int .i64)), (.slice (.int .i64))])))), (9, (.ptr 270009 [])), (10, (.dat (.int .i64)))], round := none, defers := [] }], heap := [(270002, .box (.dat tSp) false), (270009, .box (.dat tSp) false)] }]
noncomputable def F27 : denL [tSu] → Option (denL [tSp, (.int .i64)]) := ghost cx24 S27 6000 27 [tSu] [tSp, (.int .i64)]
noncomputable def C27 : Con := ⟨[tSu], [tSp, (.int .i64)], F27⟩
noncomputable def cx27 : Ctx := cx24.add 27 C27
def S29 : List Gh.Spec := [{ key := (0, 29, 7, 1), frs := [{ fn := 29, n := 48, regs := [(7, (.dat (.slice (.struct [(.slice (.int .i64)), (.slice (.int .i64))])))), (8, (.dat (.slice (.int .i64)))), (9, (.dat (.int .i64)))], round := none, defers := [] }], heap := [] }]
noncomputable def F29 : denL [tSu] → Option (denL [(.slice (.int .i64)), (.int .i64)]) := ghost cx27 S29 6000 29 [tSu] [(.slice (.int .i64)), (.int .i64)]
noncomputable def C29 : Con := ⟨[tSu], [(.slice (.int .i64)), (.int .i64)], F29⟩
noncomputable def cx29 : Ctx := cx27.add 29 C29
def S32 : List Gh.Spec := [{ key := (0, 32, 7, 1), frs := [{ fn := 32, n := 61, regs := [(1, (.dat (.int .i64))), (2, (.dat (.int .i64))), (3, (.ptr 320003 [])), (6, (.ptr 320006 [])), (8, (.dat (.slice (.struct [(.slice (.int .i64)), (.slice (.int .i64))])))), (11, (.ptr 320011 [])), (12, (.dat (.int .i64)))], round := none, defers := [] }], heap := [(320003, .box (.dat tSu) false), (320006, .box (.dat tSp) false), (320011, .box (.dat tSp) false)] }]
noncomputable def F32 : denL [tSu, (.int .i64), (.int .i64)] → Option (denL [tSp, (.int .i64)]) := ghost cx29 S32 6000 32 [tSu, (.int .i64), (.int .i64)] [tSp, (.int .i64)]
noncomputable def C32 : Con := ⟨[tSu, (.int .i64), (.int .i64)], [tSp, (.int .i64)], F32⟩
noncomputable def cx32 : Ctx := cx29.add 32 C32
def S34 : List Gh.Spec := [{ key := (0, 34, 6, 1), frs := [{ fn := 34, n := 49, regs := [(1, (.dat (.int .i64))), (2, (.dat (.int .i64))), (3, (.ptr 340003 [])), (8, (.dat (.slice (.struct [(.slice (.int .i64)), (.slice (.int .i64))])))), (10, (.dat (.int .i64))), (11, (.dat (.int .i64)))], round := none, defers := [] }], heap := [(340003, .box (.dat tSu) false)] }]
noncomputable def F34 : denL [tSu, (.int .i64), (.int .i64)] → Option (denL [(.int .i64), (.int .i64)]) := ghost cx32 S34 6000 34 [tSu, (.int .i64), (.int .i64)] [(.int .i64), (.int .i64)]
noncomputable def C34 : Con := ⟨[tSu, (.int .i64), (.int .i64)], [(.int .i64), (.int .i64)], F34⟩
noncomputable def cx34 : Ctx := cx32.add 34 C34
def S36 : List Gh.Spec := [{ key := (0, 36, 5, 1), frs := [{ fn := 36, n := 49, regs := [(1, (.ptr 360001 [])), (7, (.dat (.int .i64)))], round := none, defers := [] }], heap := [(360001, .box (.dat tSu) false)] }, { key := (0, 36, 9, 1), frs := [{ fn := 36, n := 49, regs := [(1, (.ptr 360001 [])), (7, (.dat (.int .i64))), (8, (.dat (.slice (.slice (.int .i64))))), (9, (.dat (.int .i64)))], round := none, defers := [] }], heap := [(360001, .box (.dat tSu) false)] }]
noncomputable def F36 : denL [tSu] → Option (denL [(.slice (.int .i64)), (.int .i64)]) := ghost cx34 S36 6000 36 [tSu] [(.slice (.int .i64)), (.int .i64)]
noncomputable def C36 : Con := ⟨[tSu], [(.slice (.int .i64)), (.int .i64)], F36⟩
noncomputable def cx36 : Ctx := cx34.add 36 C36
end Go.Proofs.Ytkhhbpocmmmnmaa
/- The reference's answers are the program's. Conditions: as each lemma states. -/
namespace Go.Proofs.Ytkhhbpocmmmnmaa
open Go Go.Gh Go.Proofs
open Go.Few
structure TrOK (s : Su) (t : Tr) : Prop where
 rl : t.1.length = s.1.length
 rb : RB t.1
 gl : t.2.1.length = s.2.2.1.length
end Go.Proofs.Ytkhhbpocmmmnmaa
/- The reference's Same, Fewest, Wrong are the program's. Conditions: as each lemma states. -/
namespace Go.Proofs.Ytkhhbpocmmmnmaa
open Go Go.Gh Go.Proofs
open Go.Few
def idxL (s : Su) : List Int := upto 0 (s.2.2.2.1.length : Nat)
theorem idx_len (s : Su) : (idxL s).length = s.2.2.2.1.length := by
 unfold idxL
 rw [Few.upto_len]; omega
theorem idx_get (s : Su) {i : Nat} (h : i < s.2.2.2.1.length) : (idxL s).getD i 0 = (i : Int) := by
 rw [getD_lt (by rw [idx_len]; exact h)]
 unfold idxL upto
 simp
theorem sel_nums (s : Su) (set : Nat) : ∀ j, j ≤ s.2.2.2.1.length → Few.selB (idxL s) set j = numsL (set.testBit ·) j
 | 0, _ => rfl
 | j + 1, h => by
  rw [numsL_succ, ← sel_nums s set j (by omega)]
  simp only [Few.selB, idx_get s (show j < s.2.2.2.1.length by omega)]
theorem bits_sets (s : Su) : Few.byBits (idxL s) = setsL s.2.2.2.1.length 0 (2 ^ s.2.2.2.1.length) := by
 unfold Few.byBits setsL
 rw [idx_len, ← List.range_eq_range']
 exact List.map_congr_left fun set _ => sel_nums s set _ (Nat.le_refl _)
theorem wrong_find {s : Su} (h0 : (chkP s).2.2.1 = 0) : wrongP s = match (Few.subsTo (idxL s) (s.2.2.2.1.length + 1)).find? (okW s) with
  | some r => (r, 0, ())
  | none => ([], 8, ()) := by
 have hsf := Few.scan_find (ok := okW s) (ok' := okW s) (hs := idxL s) (show (idxL s).Pairwise (· < ·) from Few.upto_pair _ _) fun _ _ => rfl
 rw [bits_sets, idx_len] at hsf
 unfold wrongP
 rw [if_pos h0]
 cases hf : (Few.subsTo (idxL s) (s.2.2.2.1.length + 1)).find? (okW s) with
 | some r => rw [hsf.1 r hf]; rfl
 | none => rw [hsf.2 hf]; rfl
theorem L30 (l k : List Int) (hl : l.length < 1000000) : F30 ((l, k, ()) : List Int × List Int × Unit) = some (decide (l = k), ()) := by
 refine N30 _ _ ?_
 by_cases hlen : l.length = k.length
 ·rw [show ((l.length : Int) == (k.length : Int)) = true from beq_iff_eq.2 (by omega)]
  have key : ∀ (c i : Nat) (b : Bool), i + c = l.length → (b = true → l.take i = k.take i) → (b = false → l ≠ k) → Ev fun f => T30_0 l k b i f = some (decide (l = k), ()) := by
   intro c
   induction c with
   | zero =>
    intro i b hi h1 h2
    refine R30_0 _ _ _ _ ?_
    rw [dec_f (show ¬ (i : Int) < (l.length : Int) by omega)]
    cases b with
    | true =>
     have := h1 rfl
     rw [List.take_of_length_le (by omega), List.take_of_length_le (by omega)] at this
     rw [dec_t this]; exact Ev.all fun _ => rfl
    | false => rw [dec_f (h2 rfl)]; exact Ev.all fun _ => rfl
   | succ c ih =>
    intro i b hi h1 h2
    have hlt : i < l.length := by omega
    have hkt : i < k.length := by omega
    refine R30_0 _ _ _ _ ?_
    cases b with
    | false => rw [dec_f (h2 rfl)]; exact Ev.all fun _ => rfl
    | true =>
     rw [dec_t (show (i : Int) < (l.length : Int) by omega), dec_t (show (0 : Int) ≤ (i : Int) by omega), dec_t (show (i : Int) < (k.length : Int) by omega), Int.toNat_natCast, getD_lt hlt, getD_lt hkt, wrap_succ (n := i) (by omega)]
     simp only [Bool.and_self, cond_true]
     refine ih (i + 1) _ (by omega) (fun h => ?_) (fun h hn => ?_)
     ·rw [List.take_add_one, List.take_add_one, h1 rfl, List.getElem?_eq_getElem hlt, List.getElem?_eq_getElem hkt, eq_of_beq h]
     ·subst hn
      simp at h
  exact key l.length 0 true (by omega) (fun _ => rfl) (fun h => by cases h)
 ·rw [show ((l.length : Int) == (k.length : Int)) = false from beq_eq_false_iff_ne.2 (by omega), dec_f (fun h => hlen (by rw [h]))]
  refine R30_0 _ _ _ _ ?_
  exact Ev.all fun _ => rfl
end Go.Proofs.Ytkhhbpocmmmnmaa
