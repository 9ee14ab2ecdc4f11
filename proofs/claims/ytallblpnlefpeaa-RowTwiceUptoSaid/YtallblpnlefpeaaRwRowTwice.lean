/- What the ghost comes to: a law. Conditions: none (equations, each by computation). -/
import Derived.Test.YtallblpnlefpeaaRoF
import Derived.Test.YtallblpnlefpeaaRoGa
import Derived.Test.YtallblpnlefpeaaRoG
import Derived.JoinedCond
import Derived.ChangeSame
import Derived.Deep.Slices
namespace Go.Proofs.Ytallblpnlefpeaa
open Go Go.Gh Go.Proofs
def S16 : List Gh.Spec := [{ key := (0, 16, 4, 1), frs := [{ fn := 16, n := 119, regs := [(1, (.ptr 160001 [])), (3, (.ptr 160003 [])), (4, (.dat (.int .i64)))], round := none, defers := [] }], heap := [(160001, .box (.dat tBk) false), (160003, .box (.agg [(.row 160023), (.dat (.slice (.slice tWy)))]) false), (160023, .row (.struct [(.int .i64), .bool]) false)] }, { key := (0, 16, 12, 1), frs := [{ fn := 16, n := 119, regs := [(1, (.ptr 160001 [])), (3, (.ptr 160003 [])), (6, (.dat (.int .i64)))], round := none, defers := [] }], heap := [(160001, .box (.dat tBk) false), (160003, .box (.agg [(.row 160023), (.dat (.slice (.slice tWy)))]) false), (160023, .row (.struct [(.int .i64), .bool]) true)] }]
noncomputable def K16_0 : Kept := { todos := [[.inLoop (cAt Try.f16 [1, 1, 1, 0, 1, 0, 0]), .inBlock 0, .code (cAt Try.f16 [1, 1, 1, 1])]], cs := [noCodes, noCodes, noCodes] }
noncomputable def K16_1 : Kept := { todos := [[.inLoop (cAt Try.f16 [1, 1, 1, 1, 1, 0, 1, 0, 0]), .inBlock 2, .code (cAt Try.f16 [1, 1, 1, 1, 1, 1])]], cs := [noCodes, noCodes, noCodes] }
theorem E16 (G : (n : Nat) → Kept → denK (specAt S16 n) → Option (denL [.bool])) (t0 : Bk) : enter cx49 S16 [.bool] 6000 some G 16 [tBk] (t0, ()) =
    bif decide (List.length (Prod.fst t0) ≤ 2147483648) then G 0 K16_0 ((((), (), 0, ()), ()), t0, ((), Prod.fst (Prod.snd t0), ()), Prod.fst t0, ()) else none := by kernel_rfl
theorem Q16_0 (G : (n : Nat) → Kept → denK (specAt S16 n) → Option (denL [.bool])) (t4 : Int) (h0 : Bk) (h1_1 : (List (List Wy))) (h2 : (List Rw)) : seg cx49 S16 [.bool] 6000 some G 0 K16_0 ((((), ((), (t4, ()))), ()), (h0, (((), (h1_1, ())), (h2, ())))) =
    bif decide (t4 < (↑(List.length h2) : Int)) then
  bif decide (0 ≤ t4) && decide (t4 < (↑(List.length h2) : Int)) then
    bif decide (Int.toNat t4 < List.length h2) then
      bif decide (0 ≤ t4) && decide (t4 < (↑(List.length h2) : Int)) then
        bif decide (Int.toNat t4 < List.length h2) then G 0 K16_0 ((((), (), IntKind.wrap IntKind.i64 (t4 + 1), ()), ()), h0, ((), h1_1, ()), List.set h2 (Int.toNat t4) (IntKind.wrap IntKind.i64 (2 * if 198 < Prod.fst (List.getD h2 (Int.toNat t4) (0, false, ())) then 198 else Prod.fst (List.getD h2 (Int.toNat t4) (0, false, ()))), Prod.snd (List.getD h2 (Int.toNat t4) (0, false, ()))), ())
        else none
      else none
    else none
  else none
  else Option.bind (F39 (h0, ())) fun (y : Bool × Unit) => bif !Prod.fst y then Option.bind (F24 ()) fun (y : Bool × Unit) => some (Prod.fst y, ()) else Option.bind (F39 ((h2, h1_1, ()), ())) fun (y : Bool × Unit) => bif !Prod.fst y then Option.bind (F24 ()) fun (y : Bool × Unit) => some (Prod.fst y, ()) else G 1 K16_1 ((((), (), 0, ()), ()), h0, ((), h1_1, ()), h2, ()) := by kernel_rfl
theorem Q16_1 (G : (n : Nat) → Kept → denK (specAt S16 n) → Option (denL [.bool])) (t6 : Int) (h0 : Bk) (h1_1 : (List (List Wy))) (h2 : (List Rw)) : seg cx49 S16 [.bool] 6000 some G 1 K16_1 ((((), ((), (t6, ()))), ()), (h0, (((), (h1_1, ())), (h2, ())))) =
    bif decide (t6 < (↑(List.length (Prod.fst (Prod.snd h0))) : Int)) then
  Option.bind (F20 (h0, t6, ())) fun (y : Int × Int × Unit) => Option.bind (F20 ((h2, h1_1, ()), t6, ())) fun (y_1 : Int × Int × Unit) => bif Prod.fst y_1 != IntKind.wrap IntKind.i64 (2 * Prod.fst y) then some (false, ()) else bif Prod.fst (Prod.snd y) != Prod.fst (Prod.snd y_1) then some (false, ()) else G 1 K16_1 ((((), (), IntKind.wrap IntKind.i64 (t6 + 1), ()), ()), h0, ((), h1_1, ()), h2, ())
  else
  Option.bind (F22 (h0, ())) fun (y : Int × Int × Int × Int × Unit) =>
    Option.bind (F22 ((h2, h1_1, ()), ())) fun (y_1 : Int × Int × Int × Int × Unit) =>
      bif Prod.fst y == Prod.fst y_1 then
        bif Prod.fst (Prod.snd y) == Prod.fst (Prod.snd y_1) then bif Prod.fst (Prod.snd (Prod.snd y)) == Prod.fst (Prod.snd (Prod.snd y_1)) then bif Prod.fst (Prod.snd (Prod.snd (Prod.snd y))) == Prod.fst (Prod.snd (Prod.snd (Prod.snd y_1))) then Option.bind (F24 ()) fun (y : Bool × Unit) => some (Prod.fst y, ()) else some (false, ()) else some (false, ()) else some (false, ())
      else some (false, ()) := by kernel_rfl
noncomputable def F16 : denL [tBk] → Option (denL [.bool]) := ghost cx49 S16 6000 16 [tBk] [.bool]
noncomputable def C16 : Con := ⟨[tBk], [.bool], F16⟩
end Go.Proofs.Ytallblpnlefpeaa
/- The law on doubled values. Conditions: as each lemma states. -/
namespace Go.Proofs.Ytallblpnlefpeaa
open Go Go.Gh Go.Proofs Go.Few
def dblR (r : Rw) : Rw := (IntKind.wrap IntKind.i64 (2 * if 198 < r.1 then 198 else r.1), r.2.1, ())
def dblF (f : Fd) : Fd := (f.1, 2 * f.2.1, ())
structure Dbl (b : Bk) (i : Nat) (rs : List Rw) : Prop where
  len : rs.length = b.1.length
  at_ : ∀ j, j < b.1.length → rs.getD j rw0 = if j < i then dblR (b.1.getD j rw0) else b.1.getD j rw0
theorem dbl_op (op a c : Int) : opP op (2 * a) (2 * c) = 2 * opP op a c := by
  unfold opP
  split
  · omega
  · split
    · split <;> split <;> omega
    · split <;> split <;> omega
theorem dbl_fold (op : Int) : ∀ (l : List Int) (a : Int), (l.map fun x => 2 * x).foldl (opP op) (2 * a) = 2 * l.foldl (opP op) a
  | [], _ => rfl
  | x :: l, a => by rw [List.map_cons, List.foldl_cons, List.foldl_cons, dbl_op, dbl_fold op l]
theorem dbl_made (op : Int) (l : List Int) : madeP op (l.map fun x => 2 * x) = dblF (madeP op l) := by
  cases l with
  | nil => rfl
  | cons a l => rw [List.map_cons, madeP, madeP, dbl_fold]; rfl
theorem dbl_getD (l : List Fd) (i : Nat) : (l.map dblF).getD i fd0 = dblF (l.getD i fd0) := by
  rw [List.getD_eq_getElem?_getD, List.getD_eq_getElem?_getD, List.getElem?_map]
  cases l[i]? <;> rfl
theorem dbl_inj {f g : Fd} (h : dblF f = dblF g) : f = g := by
  obtain ⟨f1, f2, _⟩ := f
  obtain ⟨g1, g2, _⟩ := g
  unfold dblF at h
  simp only [Prod.mk.injEq, and_true] at h
  rw [h.1, show f2 = g2 by omega]
theorem dbl_makes {b c : Bk} (hc : ∀ j, (c.1.getD j rw0).1 = 2 * (b.1.getD j rw0).1) (w : Wy) (rows : Int) (l : List Fd) : makesP c w rows (l.map dblF) = dblF (makesP b w rows l) := by
  unfold makesP
  have e1 : ((bitL w.2.2.1 6).any fun i => !((l.map dblF).getD i fd0).1) = (bitL w.2.2.1 6).any fun i => !(l.getD i fd0).1 := any_congr' fun i _ => by rw [dbl_getD]; rfl
  have e2 : ((bitL w.2.1 8).map fun i => (c.1.getD i rw0).1) ++ ((bitL w.2.2.1 6).map fun i => ((l.map dblF).getD i fd0).2.1) = (((bitL w.2.1 8).map fun i => (b.1.getD i rw0).1) ++ ((bitL w.2.2.1 6).map fun i => (l.getD i fd0).2.1)).map fun x => 2 * x := by
    rw [List.map_append, List.map_map, List.map_map]
    congr 1
    · exact List.map_congr_left fun i _ => hc i
    · exact List.map_congr_left fun i _ => by rw [dbl_getD]; rfl
  rw [e1, e2, dbl_made]
  split
  · rfl
  · split <;> rfl
theorem dbl_first {b c : Bk} (hc : ∀ j, (c.1.getD j rw0).1 = 2 * (b.1.getD j rw0).1) (rows : Int) (l : List Fd) : ∀ ws : List Wy, firstP c rows (l.map dblF) ws = (firstP b rows l ws).map dblF
  | [] => rfl
  | w :: ws => by
    have ih := dbl_first hc rows l ws
    unfold firstP at ih ⊢
    rw [List.map_cons, List.map_cons, List.find?_cons, List.find?_cons, dbl_makes hc]
    rw [show (dblF (makesP b w rows l)).1 = (makesP b w rows l).1 from rfl]
    cases (makesP b w rows l).1 with
    | true => rfl
    | false => exact ih
theorem dbl_allN {b c : Bk} (hn : c.2.1 = b.2.1) (hc : ∀ j, (c.1.getD j rw0).1 = 2 * (b.1.getD j rw0).1) (rows : Int) : ∀ n, allN c rows n = (allN b rows n).map dblF
  | 0 => by rw [allN, allN, List.map_replicate]; rfl
  | n + 1 => by
    rw [allN, allN, dbl_allN hn hc rows n, hn, dbl_first hc]
    cases firstP b rows (allN b rows n) (b.2.1.getD n []) with
    | none => rfl
    | some f => simp only [Option.map_some]; rw [List.map_set]
theorem dbl_clK (x : Fd) : ∀ (l : List Fd) (k : Nat), clK (dblF x) (l.map dblF) k = clK x l k
  | [], _ => rfl
  | y :: l, k => by
    rw [List.map_cons, clK, clK, dbl_clK x l]
    have : ((dblF x).1 = true ∧ (dblF y).1 = true ∧ dblF y ≠ dblF x) ↔ (x.1 = true ∧ y.1 = true ∧ y ≠ x) :=
      ⟨fun h => ⟨h.1, h.2.1, fun e => h.2.2 (by rw [e])⟩, fun h => ⟨h.1, h.2.1, fun e => h.2.2 (dbl_inj e)⟩⟩
    by_cases hc : x.1 = true ∧ y.1 = true ∧ y ≠ x
    · rw [if_pos hc, if_pos (this.2 hc)]
    · rw [if_neg hc, if_neg fun h => hc (this.1 h)]
theorem dbl_clI : ∀ (l : List Fd) (i : Nat), clI (l.map dblF) i = clI l i
  | [], _ => rfl
  | x :: l, i => by rw [List.map_cons, clI, clI, dbl_clK, dbl_clI l]
theorem dbl_clN {b c : Bk} (hc : ∀ j, (c.1.getD j rw0).1 = 2 * (b.1.getD j rw0).1) (rows : Int) (l : List Fd) : ∀ (ns : List (List Wy)) (n : Nat), clN c rows (l.map dblF) ns n = clN b rows l ns n
  | [], _ => rfl
  | ws :: ns, n => by
    rw [clN, clN, dbl_clN hc rows l ns]
    have : (ws.map fun w => makesP c w rows (l.map dblF)) = (ws.map fun w => makesP b w rows l).map dblF := by
      rw [List.map_map]
      exact List.map_congr_left fun w _ => dbl_makes hc w rows l
    rw [this, dbl_clI]
theorem L16 (b : Bk) (hb : b.1.length ≤ 2147483648) : F16 ((b, ()) : Bk × Unit) = some (true, ()) := by
  refine ghost_eq (Ev.eq (fun _ => E16 _ _) ?_)
  rw [dec_t hb]
  simp only [cond_true]
  have last : ∀ rs, Dbl b b.1.length rs → (chkP b).2.2.1 = 0 → (chkP (rs, b.2.1, ())).2.2.1 = 0 → Ev fun k => iter cx49 S16 [.bool] 6000 k 1 K16_1 ((((), ((), ((0 : Int), ()))), ()), (b, (((), (b.2.1, ())), (rs, ())))) = some (true, ()) := by
    intro rs hd h hc
    have hv := VB_of h
    have hvc := VB_of hc
    have h6 := hv.n6
    have hval : ∀ j, (rs.getD j rw0).1 = 2 * (b.1.getD j rw0).1 ∧ (rs.getD j rw0).2.1 = (b.1.getD j rw0).2.1 := by
      intro j
      by_cases hj : j < b.1.length
      · have := hv.at j hj
        rw [hd.at_ j hj, if_pos hj]
        unfold dblR
        simp only
        rw [if_neg (by omega), wrap_id (by omega) (by omega)]
        exact ⟨by first | rfl | trivial, by first | rfl | trivial⟩
      · have e1 : rs.getD j rw0 = rw0 := by rw [List.getD_eq_getElem?_getD, List.getElem?_eq_none (by rw [hd.len]; omega)]; rfl
        have e2 : b.1.getD j rw0 = rw0 := by rw [List.getD_eq_getElem?_getD, List.getElem?_eq_none (by omega)]; rfl
        rw [e1, e2]
        exact ⟨rfl, rfl⟩
    have hrows : rowsN (rs, b.2.1, ()) = rowsN b := by
      apply Nat.eq_of_testBit_eq
      intro i
      rw [stand_bit, stand_bit, show ((rs, b.2.1, ()) : Bk).1 = rs from rfl, hd.len, (hval i).2]
    have hall : allP (rs, b.2.1, ()) (rowsN b) = (allP b (rowsN b)).map dblF := dbl_allN (b := b) (c := (rs, b.2.1, ())) rfl (fun j => (hval j).1) _ _
    have hclash : clashR (rs, b.2.1, ()) = clashR b := by
      unfold clashR clashP
      rw [hrows, hall, h, hc, dbl_clN (c := (rs, b.2.1, ())) (b := b) fun j => (hval j).1]
    have key : ∀ (c n : Nat), n + c = b.2.1.length → Ev fun k => iter cx49 S16 [.bool] 6000 k 1 K16_1 ((((), ((), ((n : Int), ()))), ()), (b, (((), (b.2.1, ())), (rs, ())))) = some (true, ()) := by
      intro c
      induction c with
      | zero =>
        intro n hn
        refine iter_ev (Ev.eq (fun _ => Q16_1 _ _ _ _ _) ?_)
        rw [dec_f (by omega), L22, L22, hclash, L24]
        simp only [Option.bind_some, beq_self_eq_true, cond_true, cond_false]
        exact Ev.all fun _ => by first | rfl | trivial
      | succ c ih =>
        intro n hn
        refine iter_ev (Ev.eq (fun _ => Q16_1 _ _ _ _ _) ?_)
        have hnl : n < b.2.1.length := by omega
        have hih := ih (n + 1) (by omega)
        have hcap := allN_cap hv (rowsN b) (Nat.le_refl _) (i := n) (by omega)
        have e : valA (allP (rs, b.2.1, ()) (rowsN (rs, b.2.1, ()))) n = (2 * (valA (allP b (rowsN b)) n).1, (valA (allP b (rowsN b)) n).2.1, ()) := by
          rw [hrows, hall]
          unfold valA
          rw [dbl_getD]
          unfold dblF
          simp only
          split <;> rfl
        have hc1 : 0 ≤ (valA (allP b (rowsN b)) n).1 ∧ (valA (allP b (rowsN b)) n).1 ≤ 1000000 := by
          unfold valA
          simp only
          split
          · exact hcap
          · decide
        rw [dec_t (show (n : Int) < (b.2.1.length : Int) by omega), L20, L20, value_b h hnl, value_b (b := (rs, b.2.1, ())) hc hnl, e, wrap_succ (n := n) (by omega)]
        simp only [Option.bind_some, cond_true]
        rw [wrap_id (x := 2 * (valA (allP b (rowsN b)) n).1) (by omega) (by omega)]
        simp only [bne_self_eq_false, cond_false]
        exact hih
    exact key b.2.1.length 0 (by omega)
  have first : ∀ (c i : Nat) (rs : List Rw), i + c = b.1.length → Dbl b i rs → Ev fun k => iter cx49 S16 [.bool] 6000 k 0 K16_0 ((((), ((), ((i : Int), ()))), ()), (b, (((), (b.2.1, ())), (rs, ())))) = some (true, ()) := by
    intro c
    induction c with
    | zero =>
      intro i rs hi hd
      obtain rfl : i = b.1.length := by omega
      refine iter_ev (Ev.eq (fun _ => Q16_0 _ _ _ _ _) ?_)
      rw [hd.len, dec_f (by omega), L39, L39, L24]
      simp only [cond_false, Option.bind_some]
      by_cases h : (chkP b).2.2.1 = 0
      · rw [h]
        simp only [beq_self_eq_true, Bool.not_true, cond_false]
        by_cases hc : (chkP (rs, b.2.1, ())).2.2.1 = 0
        · rw [hc]
          exact last rs hd h hc
        · rw [show ((chkP (rs, b.2.1, ())).2.2.1 == 0) = false from beq_eq_false_iff_ne.2 hc]
          exact Ev.all fun _ => by first | rfl | trivial
      · rw [show ((chkP b).2.2.1 == 0) = false from beq_eq_false_iff_ne.2 h]
        exact Ev.all fun _ => by first | rfl | trivial
    | succ c ih =>
      intro i rs hi hd
      refine iter_ev (Ev.eq (fun _ => Q16_0 _ _ _ _ _) ?_)
      have hil : i < b.1.length := by omega
      have hg := hd.at_ i hil
      rw [if_neg (Nat.lt_irrefl i)] at hg
      rw [hd.len, dec_t (show (i : Int) < (b.1.length : Int) by omega), dec_t (show (0 : Int) ≤ (i : Int) by omega), Int.toNat_natCast, dec_t hil, wrap_succ (n := i) (by omega), show rs.getD i (0, false, ()) = rs.getD i rw0 from rfl, hg]
      simp only [cond_true, Bool.and_self]
      refine ih (i + 1) _ (by omega) ⟨by rw [List.length_set]; exact hd.len, fun j hj => ?_⟩
      rw [getD_set' (by rw [hd.len]; exact hil)]
      by_cases e : i = j
      · rw [if_pos e, ← e, if_pos (show i < i + 1 by omega)]
        rfl
      · rw [if_neg e, hd.at_ j hj]
        by_cases hlt : j < i
        · rw [if_pos hlt, if_pos (by omega)]
        · rw [if_neg hlt, if_neg (by omega)]
  exact first b.1.length 0 b.1 (by omega) ⟨rfl, fun j _ => by rw [if_neg (by omega)]⟩
end Go.Proofs.Ytallblpnlefpeaa
/- RowTwice returns true for every input of small bulk, and leaves it as it was. Conditions: none beyond the row's own. -/
namespace Go.Proofs.Ytallblpnlefpeaa
open Go Go.Gh Go.ChangeShapes Go.WideShapes Go.ChangeAt Go.RowKit

section
variable {H : Type} {enc : TypeId × Value → H}
/-- The row's contract. -/
theorem law_contract2 {cx : Ctx} {f : FuncId} {fn : Func} {ts : List Ty} {F : denL ts → Option (denL [.bool])} (hcon : ConOK cx f ⟨ts, [.bool], F⟩) (hl : laidOutB cx.P = true)
    {s : ChangeSpec} {apart fresh handsOn again : Bool} {B : TypeId} (hty : tysOK cx.P ts fn.params.toList = true) (hres : fn.resultTypes = #[B]) (hB : cx.P.underlying B = some .bool)
    (hs : ∀ ds : List (DataW H), ds.length = ts.length → (s.fn H ds).results = [.lit (.bool true)] ∧ (s.fn H ds).args = ds ∧ (s.fn H ds).vars = []) (hvars : s.vars = [])
        {W : World} {base : Nat} {args : Array Value} {ds gs : List (DataW H)} {before : List MemPlace}
    (hval : ∀ (j : Nat) t v, fn.params[j]? = some t → args[j]? = some v → Value.okWide cx.P W .any base t v)
    (hW : DataW.Whole enc cx.P fn.params.toList s.vars apart W args.toList ds gs before) (hglob : GlobOK cx (calm W))
    (hF : ∀ x p, EVL (calm W) ts x args.toList → DataW.TrodAll enc cx.P W 0 (fun _ => true) true fn.params.toList args.toList ds p → F x = some (true, ())) :
    Calls cx.P f args W fun e W' => ∃ v, e = .returned v ∧ s.post enc cx.P fn apart fresh handsOn again W args v W' := by
  have hW' := hW
  obtain ⟨p, q, hA, hV, rfl, hfz, hnd⟩ := hW
  obtain ⟨x, hx, hw, hlen⟩ := all_EVL hty (fun j t v h1 h2 => hval j t v (by simpa using h1) (by simpa using h2)) hA
  rw [hvars] at hV
  obtain ⟨rfl, rfl⟩ := trodVars_none hV
  simp only [List.append_nil] at hW' hfz hnd
  have hc := hcon (calm W) x (true, ()) args.toList (hF x _ hx hA) hx (fun _ _ h => h.elim) (fun _ _ h => by cases h) hglob (fun _ _ _ _ h => by cases h)
  simp only [Array.toArray_toList] at hc
  refine hc.mono fun e W' ⟨v, M', he, hr, hext, _, _, _⟩ => ?_
  subst he
  have hb := below_of_ext hext
  obtain ⟨hs1, hs2, hs3⟩ := hs ds hlen
  have hlt := hW'.lt
  have hv : v = .bool true := by
    obtain ⟨vs, h1, h2⟩ := hr
    unfold EVL at h1
    obtain ⟨u, us, rfl, ⟨cs, he, ho⟩, h4⟩ := h1
    unfold EVL at h4
    subst h4
    unfold Enc at he
    subst he
    have : u = .bool true := by
      have := ho
      simp [ofCells, Ty.isAgg] at this
      exact this.symm
    subst this
    simpa using h2
  subst hv
  refine ⟨_, rfl, post_below (pa := p) (pv := []) hW' (fun b sp hd => ?_) (fun sp hsp => ?_) (fun sp hsp => ?_) (by simp) hb ?_⟩
  · rw [hres, List.append_nil, hs1]
    exact ⟨[], [], shut_bool hB _, rfl, rfl⟩
  · rw [List.append_nil, hs2]
    exact all_stay hl hb hty hA hlt sp hsp
  · rw [List.append_nil, hvars, hs3]
    exact rfl
  · exact ok_one hres rfl (okWide_bool_mk hB _)
end
theorem bulk_len {H : Type} (l : List (DataW H)) : l.length ≤ Rows.uptoBulkAll l := by
  induction l with
  | nil => simp [Rows.uptoBulkAll]
  | cons x r ih =>
    have h1 : 1 ≤ Rows.uptoBulk x := by
      cases x with
      | lit l => cases l <;> simp [Rows.uptoBulk]
      | nil => simp [Rows.uptoBulk]
      | ptr d => simp [Rows.uptoBulk]
      | slice elems spare => simp [Rows.uptoBulk]
      | agg parts => simp [Rows.uptoBulk]
      | iface t d => simp [Rows.uptoBulk]
      | map entries => simp [Rows.uptoBulk]
      | held h => simp [Rows.uptoBulk]
    simp only [Rows.uptoBulkAll, List.length_cons]
    omega
theorem bulk_app {H : Type} (gs : List (DataW H)) : ∀ ds : List (DataW H), Rows.uptoBulkAll ds ≤ Rows.uptoBulkAll (ds ++ gs)
  | [] => by simp [Rows.uptoBulkAll]
  | d :: ds => by
    have := bulk_app gs ds
    simp only [List.cons_append, Rows.uptoBulkAll]
    omega
theorem bk_ty : ∃ f0 f1 : Field, Try.prog.underlying 25 = some (.struct #[f0, f1]) ∧ f0.offset = 0 ∧ Try.prog.cellsOf f0.type = 1 ∧ ∃ e, Try.prog.underlying f0.type = some (.slice e) :=
  ⟨{ name := "Rows", type := 22, offset := 0, embedded := false, tag := "", pkgPath := "", byteOffset := 0 }, { name := "Numbers", type := 23, offset := 1, embedded := false, tag := "", pkgPath := "", byteOffset := 24 }, by kernel_rfl, rfl, by kernel_rfl, 45, by kernel_rfl⟩
theorem rows_bulk {H : Type} {enc : TypeId × Value → H} {W : World} {base : Nat} {spare : Nat → Bool} {held : Bool} {vs : List Value} {ds : List (DataW H)} {p : List MemPlace} {x : denL [tyB]}
    (hA : DataW.TrodAll enc Try.prog W base spare held [25] vs ds p) (hx : EVL (calm W) [tyB] x vs) : List.length x.1.1 ≤ Rows.uptoBulkAll ds := by
  obtain ⟨v, vs', d, ds', p1, q1, rfl, rfl, rfl, ⟨fuel, h0⟩, _⟩ := trodAll_cons hA
  unfold EVL at hx
  obtain ⟨u, us, he, ⟨cs, h1, h2⟩, _⟩ := hx
  obtain ⟨rfl, _⟩ := List.cons.inj he
  have hcs : v.cells.toList = cs := by
    simp only [ofCells, Ty.isAgg] at h2
    obtain rfl := h2
    simp [Value.cells]
  rw [hcs] at h0
  unfold Enc EncL at h1
  obtain ⟨c1, c2, rfl, h3, _⟩ := h1
  unfold Enc at h3
  obtain ⟨a, cap, rfl, _, _⟩ := h3
  obtain ⟨f0, f1, hu, ho, hc, e, hs⟩ := bk_ty
  obtain ⟨y0, y1, n, hd, _, h4, _⟩ := trod_struct2 hu h0
  rw [ho, hc] at h4
  have hd : d = .agg [y0.1, y1.1] := congrArg Prod.fst hd
  rw [hd]
  simp only [Rows.uptoBulkAll, Rows.uptoBulk]
  simp only [List.drop_zero, List.cons_append, List.take_succ_cons, List.take_zero] at h4
  rcases Deep.open_slice hs h4 with ⟨h5, _⟩ | ⟨a', len, cap', m, n', D, Pl, h5, _, _, _, _, h6, _⟩
  · have := (List.cons.inj h5).1
    simp only [Value.slice.injEq] at this
    omega
  · have h7 := (List.cons.inj h5).1
    simp only [Value.slice.injEq] at h7
    have h8 : y0.1 = .slice ((List.range len).map D) ((List.range (m - len)).map fun j => D (len + j)) := congrArg Prod.fst h6
    have h9 := bulk_len ((List.range len).map D)
    rw [List.length_map, List.length_range] at h9
    rw [h8]
    simp only [Rows.uptoBulk]
    omega

theorem rowTwice_con : ConOK cx49 16 ⟨[tyB], [.bool], F16⟩ := ghost_ok ok49 S16 6000 16 _ _

set_option maxRecDepth 100000 in
theorem rowTwiceUpto_lifted (os : Os) (started : os.Started) (H : Type) (enc : TypeId × Value → H) (F : Stop.Interp) :
    ReturnsInHanded {} Try.checked os 16 .any ((Rows.OpenSpec.upto Rows.rowTwiceSpec).pre6 enc Try.prog Try.f16 Rows.rowTwiceUptoRow.domain false)
      (((Rows.OpenSpec.upto Rows.rowTwiceSpec).at F).post enc Try.prog Try.f16 false true false false) := by
  refine returnsInHanded_of_cond (C := Try.checked) (s := Rows.OpenSpec.upto Rows.rowTwiceSpec) (k := Rows.uptoSmall) rfl own1 started (by kernel_rfl) Try.func16
    (OpenSpec.witness (enc := enc) (C := Try.checked) (s := Rows.OpenSpec.upto Rows.rowTwiceSpec) (k := Rows.uptoSmall) rfl false ⟨#[], #[.agg #[.slice none 0 0, .slice none 0 0]], []⟩ 8 (by kernel_rfl) (by kernel_rfl) (by kernel_rfl)
      (x := ([.agg [.nil, .nil]], [], [])) (by kernel_rfl) rfl (by kernel_rfl)) ?_
  intro W base args ds gs before hval hW _ hk _
  refine law_contract2 rowTwice_con laidOut1 (B := 4) (by kernel_rfl) (by kernel_rfl) (by kernel_rfl) (fun ds hds => by
    match ds, hds with
    | [d], _ => exact ⟨rfl, rfl, rfl⟩) rfl hval hW (glob_ok W rfl) (fun x p hx hA => ?_)
  have hb := rows_bulk hA hx
  have hk1 := of_decide_eq_true hk
  have hle := bulk_app gs ds
  exact L16 x.1 (by omega)

theorem rowTwice_holds : Rows.RowTwiceUptoSaid :=
  OpenClaim.holds_of_cond 16 Try.f16 rfl rfl rfl rfl rfl rfl rfl ⟨rfl, rfl, rfl, rfl, rfl⟩ rfl rfl rfl rfl rfl (by kernel_rfl) Try.func16 (by kernel_rfl)
    (of_decide_eq_true (by kernel_rfl)) (by unfold Func.isWrapper; first | (rw [if_pos (by decide +kernel)]; kernel_rfl) | (rw [if_neg (by decide +kernel)]; exact ⟨rfl, rfl⟩))
    (fun os started H enc _ F => rowTwiceUpto_lifted os started H enc F)
#print axioms rowTwice_holds
end Go.Proofs.Ytallblpnlefpeaa
