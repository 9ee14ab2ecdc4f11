/- The law on doubled values. Conditions: as each lemma states. -/
import Derived.Test.YtallblpnlefpeaaRoGa
import Derived.Test.YtallblpnlefpeaaRoF16
namespace Go.Proofs.Ytallblpnlefpeaa
open Go Go.Gh Go.Proofs Go.Few
def dblR (r : Rw) : Rw := (IntKind.wrap IntKind.i64 (2 * if 198 < r.1 then 198 else r.1), r.2.1, ())
def dblF (f : Fd) : Fd := (f.1, 2 * f.2.1, ())
structure Dbl (b : Bk) (i : Nat) (rs : List Rw) : Prop where
 len : rs.length = b.1.length
 at_ : ∀ j, j < b.1.length → rs.getD j rw0 = if j < i then dblR (b.1.getD j rw0) else b.1.getD j rw0
theorem dbl_op (op a c : Int) : opP op (2 * a) (2 * c) = 2 * opP op a c := by
 unfold opP
 split
 ·omega
 ·split
  ·split <;> split <;> omega
  ·split <;> split <;> omega
theorem dbl_fold (op : Int) : ∀ (l : List Int) (a : Int), (l.map fun x => 2 * x).foldl (opP op) (2 * a) = 2 * l.foldl (opP op) a
 | [], _ => rfl
 | x :: l, a => by rw [List.map_cons, List.foldl_cons, List.foldl_cons, dbl_op, dbl_fold op l]
theorem dbl_made (op : Int) (l : List Int) : madeP op (l.map fun x => 2 * x) = dblF (madeP op l) := by
 cases l with
 | nil => rfl
 | cons a l => rw [List.map_cons, madeP, madeP, dbl_fold]; rfl
theorem dbl_getD (l : List Fd) (i : Nat) : (l.map dblF).getD i fd0 = dblF (l.getD i fd0) := by
 rw [List.getD_eq_getElem?_getD, List.getD_eq_getElem?_getD, List.getElem?_map]
 cases l[i]? <;> rfl
theorem dbl_inj {f g : Fd} (h : dblF f = dblF g) : f = g := by
 obtain ⟨f1, f2, _⟩ := f
 obtain ⟨g1, g2, _⟩ := g
 unfold dblF at h
 simp only [Prod.mk.injEq, and_true] at h
 rw [h.1, show f2 = g2 by omega]
theorem dbl_makes {b c : Bk} (hc : ∀ j, (c.1.getD j rw0).1 = 2 * (b.1.getD j rw0).1) (w : Wy) (rows : Int) (l : List Fd) : makesP c w rows (l.map dblF) = dblF (makesP b w rows l) := by
 unfold makesP
 have e1 : ((bitL w.2.2.1 6).any fun i => !((l.map dblF).getD i fd0).1) = (bitL w.2.2.1 6).any fun i => !(l.getD i fd0).1 := any_congr' fun i _ => by rw [dbl_getD]; rfl
 have e2 : ((bitL w.2.1 8).map fun i => (c.1.getD i rw0).1) ++ ((bitL w.2.2.1 6).map fun i => ((l.map dblF).getD i fd0).2.1) = (((bitL w.2.1 8).map fun i => (b.1.getD i rw0).1) ++ ((bitL w.2.2.1 6).map fun i => (l.getD i fd0).2.1)).map fun x => 2 * x := by
  rw [List.map_append, List.map_map, List.map_map]
  congr 1
  ·exact List.map_congr_left fun i _ => hc i
  ·exact List.map_congr_left fun i _ => by rw [dbl_getD]; rfl
 rw [e1, e2, dbl_made]
 split
 ·rfl
 ·split <;> rfl
theorem dbl_first {b c : Bk} (hc : ∀ j, (c.1.getD j rw0).1 = 2 * (b.1.getD j rw0).1) (rows : Int) (l : List Fd) : ∀ ws : List Wy, firstP c rows (l.map dblF) ws = (firstP b rows l ws).map dblF
 | [] => rfl
 | w :: ws => by
  have ih := dbl_first hc rows l ws
  unfold firstP at ih ⊢
  rw [List.map_cons, List.map_cons, List.find?_cons, List.find?_cons, dbl_makes hc]
  rw [show (dblF (makesP b w rows l)).1 = (makesP b w rows l).1 from rfl]
  cases (makesP b w rows l).1 with
  | true => rfl
  | false => exact ih
theorem dbl_allN {b c : Bk} (hn : c.2.1 = b.2.1) (hc : ∀ j, (c.1.getD j rw0).1 = 2 * (b.1.getD j rw0).1) (rows : Int) : ∀ n, allN c rows n = (allN b rows n).map dblF
 | 0 => by rw [allN, allN, List.map_replicate]; rfl
 | n + 1 => by
  rw [allN, allN, dbl_allN hn hc rows n, hn, dbl_first hc]
  cases firstP b rows (allN b rows n) (b.2.1.getD n []) with
  | none => rfl
  | some f => simp only [Option.map_some]; rw [List.map_set]
theorem dbl_clK (x : Fd) : ∀ (l : List Fd) (k : Nat), clK (dblF x) (l.map dblF) k = clK x l k
 | [], _ => rfl
 | y :: l, k => by
  rw [List.map_cons, clK, clK, dbl_clK x l]
  have : ((dblF x).1 = true ∧ (dblF y).1 = true ∧ dblF y ≠ dblF x) ↔ (x.1 = true ∧ y.1 = true ∧ y ≠ x) :=
   ⟨fun h => ⟨h.1, h.2.1, fun e => h.2.2 (by rw [e])⟩, fun h => ⟨h.1, h.2.1, fun e => h.2.2 (dbl_inj e)⟩⟩
  by_cases hc : x.1 = true ∧ y.1 = true ∧ y ≠ x
  ·rw [if_pos hc, if_pos (this.2 hc)]
  ·rw [if_neg hc, if_neg fun h => hc (this.1 h)]
theorem dbl_clI : ∀ (l : List Fd) (i : Nat), clI (l.map dblF) i = clI l i
 | [], _ => rfl
 | x :: l, i => by rw [List.map_cons, clI, clI, dbl_clK, dbl_clI l]
theorem dbl_clN {b c : Bk} (hc : ∀ j, (c.1.getD j rw0).1 = 2 * (b.1.getD j rw0).1) (rows : Int) (l : List Fd) : ∀ (ns : List (List Wy)) (n : Nat), clN c rows (l.map dblF) ns n = clN b rows l ns n
 | [], _ => rfl
 | ws :: ns, n => by
  rw [clN, clN, dbl_clN hc rows l ns]
  have : (ws.map fun w => makesP c w rows (l.map dblF)) = (ws.map fun w => makesP b w rows l).map dblF := by
   rw [List.map_map]
   exact List.map_congr_left fun w _ => dbl_makes hc w rows l
  rw [this, dbl_clI]
theorem L16 (b : Bk) (hb : b.1.length * 16 ≤ 140737488351232) : F16 ((b, ()) : Bk × Unit) = some (true, ()) := by
 refine ghost_eq (Ev.eq (fun _ => E16 _ _) ?_)
 rw [dec_t (show b.1.length ≤ 8796093022208 by omega)]
 simp only [cond_true]
 have last : ∀ rs, Dbl b b.1.length rs → (chkP b).2.2.1 = 0 → (chkP (rs, b.2.1, ())).2.2.1 = 0 → Ev fun k => iter cxM S16 [.bool] 6000 k 1 K16_1 ((((), ((), ((0 : Int), ()))), ()), (b, (((), (b.2.1, ())), (rs, ())))) = some (true, ()) := by
  intro rs hd h hc
  have hv := VB_of h
  have hvc := VB_of hc
  have h6 := hv.n6
  have hval : ∀ j, (rs.getD j rw0).1 = 2 * (b.1.getD j rw0).1 ∧ (rs.getD j rw0).2.1 = (b.1.getD j rw0).2.1 := by
   intro j
   by_cases hj : j < b.1.length
   ·have := hv.at j hj
    rw [hd.at_ j hj, if_pos hj]
    unfold dblR
    simp only
    rw [if_neg (by omega), wrap_id (by omega) (by omega)]
    exact ⟨by first | rfl | trivial, by first | rfl | trivial⟩
   ·have e1 : rs.getD j rw0 = rw0 := by rw [List.getD_eq_getElem?_getD, List.getElem?_eq_none (by rw [hd.len]; omega)]; rfl
    have e2 : b.1.getD j rw0 = rw0 := by rw [List.getD_eq_getElem?_getD, List.getElem?_eq_none (by omega)]; rfl
    rw [e1, e2]
    exact ⟨rfl, rfl⟩
  have hrows : rowsN (rs, b.2.1, ()) = rowsN b := by
   apply Nat.eq_of_testBit_eq
   intro i
   rw [stand_bit, stand_bit, show ((rs, b.2.1, ()) : Bk).1 = rs from rfl, hd.len, (hval i).2]
  have hall : allP (rs, b.2.1, ()) (rowsN b) = (allP b (rowsN b)).map dblF := dbl_allN (b := b) (c := (rs, b.2.1, ())) rfl (fun j => (hval j).1) _ _
  have hclash : clashR (rs, b.2.1, ()) = clashR b := by
   unfold clashR clashP
   rw [hrows, hall, h, hc, dbl_clN (c := (rs, b.2.1, ())) (b := b) fun j => (hval j).1]
  have key : ∀ (c n : Nat), n + c = b.2.1.length → Ev fun k => iter cxM S16 [.bool] 6000 k 1 K16_1 ((((), ((), ((n : Int), ()))), ()), (b, (((), (b.2.1, ())), (rs, ())))) = some (true, ()) := by
   intro c
   induction c with
   | zero =>
    intro n hn
    refine iter_ev (Ev.eq (fun _ => Q16_1 _ _ _ _ _) ?_)
    rw [dec_f (by omega), L22, L22, hclash, L24]
    simp only [Option.bind_some, beq_self_eq_true, cond_true, cond_false]
    exact Ev.all fun _ => by first | rfl | trivial
   | succ c ih =>
    intro n hn
    refine iter_ev (Ev.eq (fun _ => Q16_1 _ _ _ _ _) ?_)
    have hnl : n < b.2.1.length := by omega
    have hih := ih (n + 1) (by omega)
    have hcap := allN_cap hv (rowsN b) (Nat.le_refl _) (i := n) (by omega)
    have e : valA (allP (rs, b.2.1, ()) (rowsN (rs, b.2.1, ()))) n = (2 * (valA (allP b (rowsN b)) n).1, (valA (allP b (rowsN b)) n).2.1, ()) := by
     rw [hrows, hall]
     unfold valA
     rw [dbl_getD]
     unfold dblF
     simp only
     split <;> rfl
    have hc1 : 0 ≤ (valA (allP b (rowsN b)) n).1 ∧ (valA (allP b (rowsN b)) n).1 ≤ 1000000 := by
     unfold valA
     simp only
     split
     ·exact hcap
     ·decide
    rw [dec_t (show (n : Int) < (b.2.1.length : Int) by omega), L20, L20, value_b h hnl, value_b (b := (rs, b.2.1, ())) hc hnl, e, wrap_succ (n := n) (by omega)]
    simp only [Option.bind_some, cond_true]
    rw [wrap_id (x := 2 * (valA (allP b (rowsN b)) n).1) (by omega) (by omega)]
    simp only [bne_self_eq_false, cond_false]
    exact hih
  exact key b.2.1.length 0 (by omega)
 have first : ∀ (c i : Nat) (rs : List Rw), i + c = b.1.length → Dbl b i rs → Ev fun k => iter cxM S16 [.bool] 6000 k 0 K16_0 ((((), ((), ((i : Int), ()))), ()), (b, (((), (b.2.1, ())), (rs, ())))) = some (true, ()) := by
  intro c
  induction c with
  | zero =>
   intro i rs hi hd
   obtain rfl : i = b.1.length := by omega
   refine iter_ev (Ev.eq (fun _ => Q16_0 _ _ _ _ _) ?_)
   rw [hd.len, dec_f (by omega), L39, L39, L24]
   simp only [cond_false, Option.bind_some]
   by_cases h : (chkP b).2.2.1 = 0
   ·rw [h]
    simp only [beq_self_eq_true, Bool.not_true, cond_false]
    by_cases hc : (chkP (rs, b.2.1, ())).2.2.1 = 0
    ·rw [hc]
     exact last rs hd h hc
    ·rw [show ((chkP (rs, b.2.1, ())).2.2.1 == 0) = false from beq_eq_false_iff_ne.2 hc]
     exact Ev.all fun _ => by first | rfl | trivial
   ·rw [show ((chkP b).2.2.1 == 0) = false from beq_eq_false_iff_ne.2 h]
    exact Ev.all fun _ => by first | rfl | trivial
  | succ c ih =>
   intro i rs hi hd
   refine iter_ev (Ev.eq (fun _ => Q16_0 _ _ _ _ _) ?_)
   have hil : i < b.1.length := by omega
   have hg := hd.at_ i hil
   rw [if_neg (Nat.lt_irrefl i)] at hg
   rw [hd.len, dec_t (show (i : Int) < (b.1.length : Int) by omega), dec_t (show (0 : Int) ≤ (i : Int) by omega), Int.toNat_natCast, dec_t hil, wrap_id (x := (i : Int) + 1) (by omega) (by omega), show rs.getD i (0, false, ()) = rs.getD i rw0 from rfl, hg]
   simp only [cond_true, Bool.and_self]
   refine ih (i + 1) _ (by omega) ⟨by rw [List.length_set]; exact hd.len, fun j hj => ?_⟩
   rw [getD_set' (by rw [hd.len]; exact hil)]
   by_cases e : i = j
   ·rw [if_pos e, ← e, if_pos (show i < i + 1 by omega)]
    rfl
   ·rw [if_neg e, hd.at_ j hj]
    by_cases hlt : j < i
    ·rw [if_pos hlt, if_pos (by omega)]
    ·rw [if_neg hlt, if_neg (by omega)]
 exact first b.1.length 0 b.1 (by omega) ⟨rfl, fun j _ => by rw [if_neg (by omega)]⟩
end Go.Proofs.Ytallblpnlefpeaa
