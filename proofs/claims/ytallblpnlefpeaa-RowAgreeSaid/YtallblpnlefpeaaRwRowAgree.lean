/- What the ghost comes to: a law. Conditions: none (equations, each by computation). -/
import Derived.Test.YtallblpnlefpeaaRoF
import Derived.Test.YtallblpnlefpeaaRoGa
import Derived.Test.YtallblpnlefpeaaRoG
namespace Go.Proofs.Ytallblpnlefpeaa
open Go Go.Gh Go.Proofs
def S12 : List Gh.Spec := [{ key := (0, 12, 11, 1), frs := [{ fn := 12, n := 174, regs := [(1, (.ptr 120001 [])), (6, (.dat (.int .i64))), (7, (.dat (.slice tFd))), (10, (.dat (.int .i64)))], round := none, defers := [] }], heap := [(120001, .box (.dat tBk) false)] }, { key := (0, 12, 15, 1), frs := [{ fn := 12, n := 174, regs := [(1, (.ptr 120001 [])), (6, (.dat (.int .i64))), (7, (.dat (.slice tFd))), (10, (.dat (.int .i64))), (11, (.dat (.int .i64))), (12, (.dat (.int .i64))), (13, (.dat (.int .i64)))], round := none, defers := [] }], heap := [(120001, .box (.dat tBk) false)] }]
noncomputable def K12_0 : Kept := { todos := [[.inLoop (cAt Try.f12 [1, 1, 1, 1, 1, 0, 1, 0, 0]), .inBlock 0, .code (cAt Try.f12 [1, 1, 1, 1, 1, 1])]], cs := [noCodes] }
noncomputable def K12_1 : Kept := { todos := [[.inLoop (cAt Try.f12 [1, 1, 1, 1, 1, 0, 1, 0, 0, 1, 0, 0, 1, 1, 0, 0]), .inBlock 2, .inBlock 1, .code (cAt Try.f12 [1, 1, 1, 1, 1, 0, 1, 0, 0, 1, 1]), .inLoop (cAt Try.f12 [1, 1, 1, 1, 1, 0, 1, 0, 0]), .inBlock 0, .code (cAt Try.f12 [1, 1, 1, 1, 1, 1])]], cs := [noCodes] }
theorem E12 (G : (n : Nat) → Kept → denK (specAt S12 n) → Option (denL [.bool])) (t0 : Bk) : enter cx49 S12 [.bool] 6000 some G 12 [tBk] (t0, ()) =
    Option.bind (F22 (t0, ())) fun (y : Int × Int × Int × Int × Unit) =>
  Option.bind (F39 (t0, ())) fun (y_1 : Bool × Unit) =>
    bif !Prod.fst y_1 then bif Prod.fst (Prod.snd (Prod.snd (Prod.snd y))) != 0 then bif Prod.fst y == 0 then bif Prod.fst (Prod.snd y) == 0 then bif Prod.fst (Prod.snd (Prod.snd y)) == 0 then Option.bind (F24 ()) fun (y : Bool × Unit) => some (Prod.fst y, ()) else some (false, ()) else some (false, ()) else some (false, ()) else some (false, ())
    else
      Option.bind (F46 (t0, ())) fun (y_2 : List Fd × Unit) =>
        bif Prod.fst (Prod.snd (Prod.snd (Prod.snd y))) == 0 then
          Option.bind (F51 (Prod.fst y, 0, IntKind.wrap IntKind.i64 ((↑(List.length (Prod.fst (Prod.snd t0))) : Int) - 1), ())) fun (y_3 : Bool × Unit) =>
            bif !Prod.fst y_3 then some (false, ())
            else
              bif decide (0 ≤ Prod.fst y) && decide (Prod.fst y < (↑(List.length (Prod.fst (Prod.snd t0))) : Int)) then
                Option.bind (F51 (Prod.fst (Prod.snd y), 0, IntKind.wrap IntKind.i64 ((↑(List.length (List.getD (Prod.fst (Prod.snd t0)) (Int.toNat (Prod.fst y)) [])) : Int) - 1), ())) fun (y_4 : Bool × Unit) =>
                  bif !Prod.fst y_4 then some (false, ())
                  else
                    bif decide (0 ≤ Prod.fst y) && decide (Prod.fst y < (↑(List.length (Prod.fst (Prod.snd t0))) : Int)) then
                      Option.bind (F51 (Prod.fst (Prod.snd (Prod.snd y)), IntKind.wrap IntKind.i64 (Prod.fst (Prod.snd y) + 1), IntKind.wrap IntKind.i64 ((↑(List.length (List.getD (Prod.fst (Prod.snd t0)) (Int.toNat (Prod.fst y)) [])) : Int) - 1), ())) fun (y_5 : Bool × Unit) =>
                        bif !Prod.fst y_5 then some (false, ())
                        else
                          bif decide (0 ≤ Prod.fst y) && decide (Prod.fst y < (↑(List.length (Prod.fst (Prod.snd t0))) : Int)) then
                            bif decide (0 ≤ Prod.fst (Prod.snd y)) && decide (Prod.fst (Prod.snd y) < (↑(List.length (List.getD (Prod.fst (Prod.snd t0)) (Int.toNat (Prod.fst y)) [])) : Int)) then
                              bif decide (0 ≤ Prod.fst y) && decide (Prod.fst y ≤ (↑(List.length (Prod.fst y_2)) : Int)) then
                                Option.bind (F52 (t0, List.getD (List.getD (Prod.fst (Prod.snd t0)) (Int.toNat (Prod.fst y)) []) (Int.toNat (Prod.fst (Prod.snd y))) (0, 0, 0, ()), List.take (Int.toNat (Prod.fst y)) (Prod.fst y_2), ())) fun (y_6 : Fd × Unit) =>
                                  bif decide (0 ≤ Prod.fst y) && decide (Prod.fst y < (↑(List.length (Prod.fst (Prod.snd t0))) : Int)) then
                                    bif decide (0 ≤ Prod.fst (Prod.snd (Prod.snd y))) && decide (Prod.fst (Prod.snd (Prod.snd y)) < (↑(List.length (List.getD (Prod.fst (Prod.snd t0)) (Int.toNat (Prod.fst y)) [])) : Int)) then
                                      bif decide (0 ≤ Prod.fst y) && decide (Prod.fst y ≤ (↑(List.length (Prod.fst y_2)) : Int)) then
                                        Option.bind (F52 (t0, List.getD (List.getD (Prod.fst (Prod.snd t0)) (Int.toNat (Prod.fst y)) []) (Int.toNat (Prod.fst (Prod.snd (Prod.snd y)))) (0, 0, 0, ()), List.take (Int.toNat (Prod.fst y)) (Prod.fst y_2), ())) fun (y : Fd × Unit) =>
                                          bif Prod.fst (Prod.fst y_6) then bif Prod.fst (Prod.fst y) then bif Prod.fst (Prod.snd (Prod.fst y_6)) != Prod.fst (Prod.snd (Prod.fst y)) then Option.bind (F24 ()) fun (y : Bool × Unit) => some (Prod.fst y, ()) else some (false, ()) else some (false, ()) else some (false, ())
                                      else none
                                    else none
                                  else none
                              else none
                            else none
                          else none
                    else none
              else none
        else G 0 K12_0 ((((), Prod.fst (Prod.snd (Prod.snd (Prod.snd y))), Prod.fst y_2, 0, ()), ()), t0, ()) := by kernel_rfl
theorem Q12_0 (G : (n : Nat) → Kept → denK (specAt S12 n) → Option (denL [.bool])) (t6 : Int) (t7 : (List Fd)) (t10 : Int) (h0 : Bk) : seg cx49 S12 [.bool] 6000 some G 0 K12_0 ((((), (t6, (t7, (t10, ())))), ()), (h0, ())) =
    bif decide (t10 < (↑(List.length (Prod.fst (Prod.snd h0))) : Int)) then Option.bind (F20 (h0, t10, ())) fun (y : Int × Int × Unit) => G 1 K12_1 ((((), t6, t7, t10, Prod.fst y, Prod.fst (Prod.snd y), 0, ()), ()), h0, ()) else bif t6 == 9 then Option.bind (F24 ()) fun (y : Bool × Unit) => some (Prod.fst y, ()) else some (false, ()) := by kernel_rfl
theorem Q12_1 (G : (n : Nat) → Kept → denK (specAt S12 n) → Option (denL [.bool])) (t6 : Int) (t7 : (List Fd)) (t10 : Int) (t11 : Int) (t12 : Int) (t13 : Int) (h0 : Bk) : seg cx49 S12 [.bool] 6000 some G 1 K12_1 ((((), (t6, (t7, (t10, (t11, (t12, (t13, ()))))))), ()), (h0, ())) =
    bif decide (0 ≤ t10) && decide (t10 < (↑(List.length (Prod.fst (Prod.snd h0))) : Int)) then
  bif decide (t13 < (↑(List.length (List.getD (Prod.fst (Prod.snd h0)) (Int.toNat t10) [])) : Int)) then
    bif decide (0 ≤ t10) && decide (t10 < (↑(List.length (Prod.fst (Prod.snd h0))) : Int)) then
      bif decide (0 ≤ t13) && decide (t13 < (↑(List.length (List.getD (Prod.fst (Prod.snd h0)) (Int.toNat t10) [])) : Int)) then
        bif decide (0 ≤ t10) && decide (t10 ≤ (↑(List.length t7) : Int)) then
          Option.bind (F52 (h0, List.getD (List.getD (Prod.fst (Prod.snd h0)) (Int.toNat t10) []) (Int.toNat t13) (0, 0, 0, ()), List.take (Int.toNat t10) t7, ())) fun (y : Fd × Unit) =>
            bif Prod.fst (Prod.fst y) then bif t12 != 0 then some (false, ()) else bif Prod.fst (Prod.snd (Prod.fst y)) != t11 then some (false, ()) else G 1 K12_1 ((((), t6, t7, t10, t11, t12, IntKind.wrap IntKind.i64 (t13 + 1), ()), ()), h0, ()) else G 1 K12_1 ((((), t6, t7, t10, t11, t12, IntKind.wrap IntKind.i64 (t13 + 1), ()), ()), h0, ())
        else none
      else none
    else none
  else G 0 K12_0 ((((), t6, t7, IntKind.wrap IntKind.i64 (t10 + 1), ()), ()), h0, ())
  else none := by kernel_rfl
noncomputable def F12 : denL [tBk] → Option (denL [.bool]) := ghost cx49 S12 6000 12 [tBk] [.bool]
noncomputable def C12 : Con := ⟨[tBk], [.bool], F12⟩
end Go.Proofs.Ytallblpnlefpeaa
/- The law on Clash and Value. Conditions: as each lemma states. -/
namespace Go.Proofs.Ytallblpnlefpeaa
open Go Go.Gh Go.Proofs Go.Few
theorem clK_some {x : Fd} : ∀ {l : List Fd} {k0 k : Nat}, clK x l k0 = some k → ∃ j, ∃ h : j < l.length, k = k0 + j ∧ x.1 = true ∧ l[j].1 = true ∧ l[j] ≠ x
  | [], _, _, h => by cases h
  | y :: l, k0, k, h => by
    rw [clK] at h
    split at h
    · rename_i hc
      cases h
      exact ⟨0, by simp, rfl, hc⟩
    · obtain ⟨j, h1, h2, h3⟩ := clK_some h
      exact ⟨j + 1, by simpa using h1, by omega, h3⟩
theorem clK_none {x : Fd} (hx : x.1 = true) : ∀ {l : List Fd} {k0 : Nat}, clK x l k0 = none → ∀ y ∈ l, y.1 = true → y = x
  | [], _, _, y, hy, _ => by cases hy
  | z :: l, k0, h, y, hy, hs => by
    rw [clK] at h
    split at h
    · cases h
    · rename_i hc
      rcases List.mem_cons.1 hy with rfl | hy
      · apply Classical.byContradiction
        intro hne
        exact hc ⟨hx, hs, hne⟩
      · exact clK_none hx h y hy hs
theorem clI_some : ∀ {l : List Fd} {i0 i k : Nat}, clI l i0 = some (i, k) → ∃ a c, ∃ (ha : a < l.length) (hc : c < l.length), i = i0 + a ∧ k = i0 + c ∧ a < c ∧ l[a].1 = true ∧ l[c].1 = true ∧ l[c] ≠ l[a]
  | [], _, _, _, h => by cases h
  | x :: l, i0, i, k, h => by
    rw [clI] at h
    cases hk : clK x l (i0 + 1) with
    | some k' =>
      rw [hk] at h
      cases h
      obtain ⟨j, h1, h2, h3, h4, h5⟩ := clK_some hk
      exact ⟨0, j + 1, by simp, by simpa using h1, rfl, by omega, by omega, h3, h4, h5⟩
    | none =>
      rw [hk] at h
      obtain ⟨a, c, ha, hc, h1, h2, h3, h4⟩ := clI_some h
      exact ⟨a + 1, c + 1, by simpa using ha, by simpa using hc, by omega, by omega, by omega, h4⟩
theorem clI_none : ∀ {l : List Fd} {i0 : Nat}, clI l i0 = none → ∀ y ∈ l, y.1 = true → l.find? (fun f => f.1) = some y
  | [], _, _, y, hy, _ => by cases hy
  | x :: l, i0, h, y, hy, hs => by
    rw [clI] at h
    cases hk : clK x l (i0 + 1) with
    | some k' => rw [hk] at h; cases h
    | none =>
      rw [hk] at h
      rw [List.find?_cons]
      cases hx : x.1 with
      | true =>
        rcases List.mem_cons.1 hy with rfl | hy
        · rfl
        · rw [clK_none hx hk y hy hs]
      | false =>
        rcases List.mem_cons.1 hy with rfl | hy
        · rw [hs] at hx; cases hx
        · exact clI_none h y hy hs
theorem clN_some {b : Bk} {rows : Int} {l : List Fd} : ∀ {nss : List (List Wy)} {n0 n i k : Nat}, clN b rows l nss n0 = some (n, i, k) → ∃ m, m < nss.length ∧ n = n0 + m ∧ clI ((nss.getD m []).map fun w => makesP b w rows l) 0 = some (i, k)
  | [], _, _, _, _, h => by cases h
  | ws :: nss, n0, n, i, k, h => by
    rw [clN] at h
    cases hk : clI (ws.map fun w => makesP b w rows l) 0 with
    | some p =>
      rw [hk] at h
      obtain ⟨p1, p2⟩ := p
      cases h
      exact ⟨0, by simp, rfl, hk⟩
    | none =>
      rw [hk] at h
      obtain ⟨m, h1, h2, h3⟩ := clN_some h
      exact ⟨m + 1, by simpa using h1, by omega, h3⟩
theorem clN_none {b : Bk} {rows : Int} {l : List Fd} : ∀ {nss : List (List Wy)} {n0 : Nat}, clN b rows l nss n0 = none → ∀ m, m < nss.length → clI ((nss.getD m []).map fun w => makesP b w rows l) 0 = none
  | [], _, _, m, hm => by simp at hm
  | ws :: nss, n0, h, m, hm => by
    rw [clN] at h
    cases hk : clI (ws.map fun w => makesP b w rows l) 0 with
    | some p => rw [hk] at h; cases h
    | none =>
      rw [hk] at h
      cases m with
      | zero => exact hk
      | succ m => exact clN_none h m (by simpa using hm)
theorem mk52 {b : Bk} (hv : VB b) {n : Nat} (hn : n < b.2.1.length) {w : Wy} (hw : w ∈ b.2.1.getD n []) : F52 ((b, w, (allT b b.2.1.length).take n, ()) : Bk × Wy × List Fd × Unit) = some (makesP b w (rowsN b) (allP b (rowsN b)), ()) := by
  have h6 := hv.n6
  have hvw := hv.ways n hn w hw
  have hlen : ((allT b b.2.1.length).take n).length = n := by rw [List.length_take, allT_len hv (Nat.le_refl _)]; omega
  rw [L52 b hv (n := n) (by omega) w hvw _ hlen fun i hi => by
    by_cases hin : i < n
    · rw [take_getD _ hin]
      exact allT_cap hv (Nat.le_refl _) hi
    · rw [List.getD_eq_getElem?_getD, List.getElem?_take, if_neg hin]
      decide]
  rw [makesP_congr b w (rowsN b) (l' := allP b (rowsN b)) fun i hi => by
    have := hvw.bit hi
    rw [take_getD _ this]
    exact allT_at (by omega)]
theorem L12 (b : Bk) : F12 ((b, ()) : Bk × Unit) = some (true, ()) := by
  refine ghost_eq (Ev.eq (fun _ => E12 _ _) ?_)
  rw [L22, L39, L24]
  simp only [Option.bind_some]
  by_cases h : (chkP b).2.2.1 = 0
  · have hv := VB_of h
    have h8 := hv.r8
    have h6 := hv.n6
    have hlT := allT_len hv (Nat.le_refl b.2.1.length)
    rw [h, L46 b hv]
    simp only [beq_self_eq_true, Bool.not_true, cond_false, Option.bind_some]
    cases hcl : clashP b (rowsN b) with
    | some p =>
      obtain ⟨n, i, k⟩ := p
      have hR : clashR b = ((n : Int), (i : Int), (k : Int), 0, ()) := by unfold clashR; rw [if_neg (fun hn => hn h), hcl]
      obtain ⟨m, hm, he, hi⟩ := clN_some hcl
      obtain rfl : n = m := by omega
      obtain ⟨a, c, ha, hc, e1, e2, hac, s1, s2, s3⟩ := clI_some hi
      obtain rfl : i = a := by omega
      obtain rfl : k = c := by omega
      have hmany := hv.many n hm
      have hmk := fun w hw => mk52 hv hm (w := w) hw
      rw [hR]
      simp only [beq_self_eq_true, cond_true]
      rw [L51, Int.toNat_natCast, Int.toNat_natCast, Int.toNat_natCast]
      generalize b.2.1.getD n [] = ws at *
      rw [List.length_map] at ha hc
      rw [List.getElem_map] at s1 s2 s3
      rw [List.getElem_map] at s3
      rw [L51, L51, getD_lt ha, getD_lt hc, hmk _ (List.getElem_mem ha), hmk _ (List.getElem_mem hc), wrap_id (x := (b.2.1.length : Int) - 1) (by omega) (by omega), wrap_id (x := (ws.length : Int) - 1) (by omega) (by omega), wrap_succ (n := i) (by omega)]
      simp only [Option.bind_some]
      rw [dec_t (show (0 : Int) ≤ (n : Int) by omega), dec_t (show (n : Int) ≤ (b.2.1.length : Int) - 1 by omega), dec_t (show (n : Int) < (b.2.1.length : Int) by omega), dec_t (show (0 : Int) ≤ (i : Int) by omega), dec_t (show (i : Int) ≤ (ws.length : Int) - 1 by omega), dec_t (show (i : Int) < (ws.length : Int) by omega), dec_t (show (0 : Int) ≤ (k : Int) by omega), dec_t (show (k : Int) ≤ (ws.length : Int) - 1 by omega), dec_t (show (k : Int) < (ws.length : Int) by omega), dec_t (show ((i + 1 : Nat) : Int) ≤ (k : Int) by omega), hlT, dec_t (show (n : Int) ≤ (b.2.1.length : Int) by omega)]
      simp only [Bool.and_self, Bool.not_true, cond_true, cond_false]
      generalize makesP b ws[i] (rowsN b) (allP b (rowsN b)) = x1 at *
      generalize makesP b ws[k] (rowsN b) (allP b (rowsN b)) = x2 at *
      have hne : x1.2.1 ≠ x2.2.1 := fun e => s3 (by
        obtain ⟨p1, p2, _⟩ := x1
        obtain ⟨q1, q2, _⟩ := x2
        simp only at s1 s2 e
        rw [s1, s2, e])
      rw [s1, s2, bne_iff_ne.2 hne]
      exact Ev.all fun _ => by first | rfl | trivial
    | none =>
      have hR : clashR b = (0, 0, 0, 9, ()) := by unfold clashR; rw [if_neg (fun hn => hn h), hcl]
      have hno := clN_none hcl
      rw [hR]
      have key : ∀ (c n : Nat), n + c = b.2.1.length → Ev fun k => iter cx49 S12 [.bool] 6000 k 0 K12_0 ((((), ((9 : Int), (allT b b.2.1.length, ((n : Int), ())))), ()), (b, ())) = some (true, ()) := by
        intro c
        induction c with
        | zero =>
          intro n hn
          refine iter_ev (Ev.eq (fun _ => Q12_0 _ _ _ _ _) ?_)
          rw [dec_f (by omega), L24]
          exact Ev.all fun _ => by first | rfl | trivial
        | succ c ih =>
          intro n hn
          refine iter_ev (Ev.eq (fun _ => Q12_0 _ _ _ _ _) ?_)
          have hnl : n < b.2.1.length := by omega
          have hih := ih (n + 1) (by omega)
          have hmany := hv.many n hnl
          have hmk := fun w hw => mk52 hv hnl (w := w) hw
          have hnone := hno n hnl
          have hat := allN_at hv (rowsN b) hnl
          rw [dec_t (show (n : Int) < (b.2.1.length : Int) by omega), L20, value_b h hnl]
          simp only [Option.bind_some, cond_true]
          unfold firstP at hat
          generalize hwe : b.2.1.getD n [] = ws at *
          have inner : ∀ (c j : Nat), j + c = ws.length → Ev fun k => iter cx49 S12 [.bool] 6000 k 1 K12_1 ((((), ((9 : Int), (allT b b.2.1.length, ((n : Int), ((valA (allP b (rowsN b)) n).1, ((valA (allP b (rowsN b)) n).2.1, ((j : Int), ()))))))), ()), (b, ())) = some (true, ()) := by
            intro c
            induction c with
            | zero =>
              intro j hj
              refine iter_ev (Ev.eq (fun _ => Q12_1 _ _ _ _ _ _ _ _) ?_)
              rw [dec_t (show (0 : Int) ≤ (n : Int) by omega), dec_t (show (n : Int) < (b.2.1.length : Int) by omega), Int.toNat_natCast, hwe, dec_f (show ¬ ((j : Int) < (ws.length : Int)) by omega), wrap_succ (n := n) (by omega)]
              exact hih
            | succ c ihj =>
              intro j hj
              refine iter_ev (Ev.eq (fun _ => Q12_1 _ _ _ _ _ _ _ _) ?_)
              have hjl : j < ws.length := by omega
              have hi := ihj (j + 1) (by omega)
              have hmem : makesP b ws[j] (rowsN b) (allP b (rowsN b)) ∈ ws.map fun w => makesP b w (rowsN b) (allP b (rowsN b)) := List.mem_map.2 ⟨_, List.getElem_mem hjl, rfl⟩
              rw [dec_t (show (0 : Int) ≤ (n : Int) by omega), dec_t (show (n : Int) < (b.2.1.length : Int) by omega), Int.toNat_natCast, hwe, dec_t (show (j : Int) < (ws.length : Int) by omega), dec_t (show (0 : Int) ≤ (j : Int) by omega), hlT, dec_t (show (n : Int) ≤ (b.2.1.length : Int) by omega), Int.toNat_natCast, getD_lt hjl, hmk _ (List.getElem_mem hjl), wrap_succ (n := j) (by omega)]
              simp only [Bool.and_self, cond_true, Option.bind_some]
              generalize makesP b ws[j] (rowsN b) (allP b (rowsN b)) = y at *
              cases hy : y.1 with
              | false => exact hi
              | true =>
                have hf := clI_none hnone y hmem hy
                rw [hf] at hat
                simp only [Option.getD_some] at hat
                have hval : valA (allP b (rowsN b)) n = (y.2.1, 0, ()) := by
                  unfold valA
                  rw [hat, if_pos hy, if_pos hy]
                rw [hval] at hi ⊢
                simp only [bne_self_eq_false, cond_true, cond_false]
                exact hi
          exact inner ws.length 0 (by omega)
      exact key b.2.1.length 0 (by omega)
  · have hR : clashR b = (0, 0, 0, (chkP b).2.2.1, ()) := by unfold clashR; rw [if_pos h]
    rw [hR, show ((chkP b).2.2.1 == 0) = false from beq_eq_false_iff_ne.2 h, bne_iff_ne.2 h]
    exact Ev.all fun _ => by first | rfl | trivial
end Go.Proofs.Ytallblpnlefpeaa
/- RowAgree returns true for every input, and leaves it as it was. Conditions: none beyond the row's own. -/
namespace Go.Proofs.Ytallblpnlefpeaa
open Go Go.Gh Go.ChangeShapes Go.WideShapes Go.ChangeAt Go.RowKit

theorem rowAgree_con : ConOK cx49 12 ⟨[tyB], [.bool], F12⟩ := ghost_ok ok49 S12 6000 12 _ _

set_option maxRecDepth 100000 in
theorem rowAgree_lifted (os : Os) (started : os.Started) (H : Type) (enc : TypeId × Value → H) :
    ReturnsInHanded {} Try.checked os 12 .any (Rows.rowAgreeSpec.pre6 enc Try.prog Try.f12 Rows.rowAgreeRow.domain false)
      (Rows.rowAgreeSpec.post enc Try.prog Try.f12 false true false false) := by
  refine returnsInHanded_of_change (C := Try.checked) own1 started (by kernel_rfl) Try.func12
    (ChangeSpec.witness6 (enc := enc) (C := Try.checked) false ⟨#[], #[.agg #[.slice none 0 0, .slice none 0 0]], []⟩ 8 (by kernel_rfl) (by kernel_rfl) (by kernel_rfl) (by kernel_rfl)) ?_
  intro W base args ds gs before hval hW _ _
  exact law_contract rowAgree_con laidOut1 (B := 4) (by kernel_rfl) (by kernel_rfl) (by kernel_rfl) (fun ds hds => by
    match ds, hds with
    | [d], _ => exact ⟨rfl, rfl, rfl⟩) rfl (fun x _ => L12 x.1) hval hW (glob_ok W rfl)

theorem rowAgree_holds : Rows.RowAgreeSaid :=
  OpenClaim.holds_of_wide 12 Try.f12 rfl rfl rfl rfl rfl rfl rfl ⟨rfl, rfl, rfl, rfl, rfl⟩ rfl rfl rfl rfl rfl (by kernel_rfl) Try.func12 (by kernel_rfl)
    (of_decide_eq_true (by kernel_rfl)) (by unfold Func.isWrapper; first | (rw [if_pos (by decide +kernel)]; kernel_rfl) | (rw [if_neg (by decide +kernel)]; exact ⟨rfl, rfl⟩))
    (fun os started H enc _ => by
      rw [OpenClaim.pre_of_none rfl]
      exact rowAgree_lifted os started H enc)
#print axioms rowAgree_holds
end Go.Proofs.Ytallblpnlefpeaa
