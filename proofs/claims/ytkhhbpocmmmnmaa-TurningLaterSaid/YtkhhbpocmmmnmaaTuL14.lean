/- What the ghost comes to: TuEq14. Conditions: none (equations, each by computation). -/
import Derived.Test.YtkhhbpocmmmnmaaTuKm
import Derived.Test.YtkhhbpocmmmnmaaTuV
import Derived.Test.YtkhhbpocmmmnmaaTuL17
namespace Go.Proofs.Ytkhhbpocmmmnmaa
open Go Go.Gh Go.Proofs
def S14 : List Gh.Spec := [{ key := (0, 14, 5, 1), frs := [{ fn := 14, n := 168, regs := [(2, (.ptr 140002 [])), (3, (.ptr 140003 [])), (5, (.dat (.int .i64))), (6, (.ptr 140006 [])), (7, (.dat (.int .i64)))], round := none, defers := [] }], heap := [(140002, .box (.dat tSu) false), (140003, .box (.dat (.arr 2 (.int .u8))) false), (140006, .box (.agg [(.dat (.slice tSp)), (.dat (.int .i64)), (.row 140031), (.dat (.slice tTl))]) false), (140031, .row tSn false)] }, { key := (0, 14, 20, 1), frs := [{ fn := 14, n := 168, regs := [(2, (.ptr 140002 [])), (5, (.dat (.int .i64))), (6, (.ptr 140006 [])), (9, (.ptr 140009 [])), (11, (.ptr 140011 [])), (17, (.dat (.int .i64))), (18, (.dat (.int .i64)))], round := none, defers := [] }], heap := [(140002, .box (.dat tSu) false), (140006, .box (.agg [(.dat (.slice tSp)), (.dat (.int .i64)), (.row 140031), (.dat (.slice tTl))]) false), (140009, .box (.dat tSp) false), (140011, .box (.dat tSp) false), (140031, .row tSn true)] }]
noncomputable def K14_0 : Kept := { todos := [[.inLoop (cAt Try.f14 [1, 1, 1, 1, 0, 1, 0, 0]), .inBlock 0, .code (cAt Try.f14 [1, 1, 1, 1, 1])]], cs := [noCodes, noCodes, noCodes, noCodes] }
noncomputable def K14_1 : Kept := { todos := [[.inLoop (cAt Try.f14 [1, 1, 1, 1, 1, 1, 1, 1, 1, 1, 1, 1, 0, 1, 0, 0]), .inBlock 2, .code (cAt Try.f14 [1, 1, 1, 1, 1, 1, 1, 1, 1, 1, 1, 1, 1])]], cs := [noCodes, noCodes, noCodes, noCodes, noCodes] }
noncomputable def F14 : denL [tSu, (.arr 2 (.int .u8))] → Option (denL [.bool]) := ghost cxM S14 6000 14 [tSu, (.arr 2 (.int .u8))] [.bool]
noncomputable abbrev T14_0 (t5 : Int) (t7 : Int) (h0 : Su) (h1 : (List Int)) (h2_0 : (List Sp)) (h2_1 : Int) (h2_3 : (List Tl)) (h3 : (List Sn)) (f : Nat) : Option (denL [.bool]) := iter cxM S14 [.bool] 6000 f 0 K14_0 ((((), ((), (t5, ((), (t7, ()))))), ()), (h0, (h1, ((h2_0, (h2_1, ((), (h2_3, ())))), (h3, ())))))
noncomputable abbrev T14_1 (t5 : Int) (t17 : Int) (t18 : Int) (h0 : Su) (h1_0 : (List Sp)) (h1_1 : Int) (h1_3 : (List Tl)) (h2 : Sp) (h3 : Sp) (h4 : (List Sn)) (f : Nat) : Option (denL [.bool]) := iter cxM S14 [.bool] 6000 f 1 K14_1 ((((), (t5, ((), ((), ((), (t17, (t18, ()))))))), ()), (h0, ((h1_0, (h1_1, ((), (h1_3, ())))), (h2, (h3, (h4, ()))))))
theorem R14_0 (t5 : Int) (t7 : Int) (h0 : Su) (h1 : (List Int)) (h2_0 : (List Sp)) (h2_1 : Int) (h2_3 : (List Tl)) (h3 : (List Sn)) {y : denL [.bool]} (h : Ev fun k =>
 (bif decide (t7 < (↑(List.length h3) : Int)) then bif decide (0 ≤ t7) && decide (t7 < (↑(List.length h3) : Int)) then bif decide (Int.toNat t7 < List.length h3) then bif decide (0 ≤ t7) && decide (t7 < (↑(List.length h3) : Int)) then bif decide (Int.toNat t7 < List.length h3) then T14_0 t5 (IntKind.wrap IntKind.i64 (t7 + 1)) h0 h1 h2_0 h2_1 h2_3 (List.set h3 (Int.toNat t7) (IntKind.wrap IntKind.i64 ((if 30 < Prod.fst (List.getD h3 (Int.toNat t7) (0, 0, 0, ())) then 30 else Prod.fst (List.getD h3 (Int.toNat t7) (0, 0, 0, ()))) + t5), Prod.snd (List.getD h3 (Int.toNat t7) (0, 0, 0, ())))) k else none else none else none else none else Option.bind (F40 (h0, ())) fun (y : Bool × Unit) => bif !y.1 then Option.bind (F25 ()) fun (y : Bool × Unit) => some (y.1, ()) else Option.bind (F40 ((h2_0, h2_1, h3, h2_3, ()), ())) fun (y : Bool × Unit) => bif !y.1 then Option.bind (F25 ()) fun (y : Bool × Unit) => some (y.1, ()) else Option.bind (F26 (h0, ())) fun (y : Sp × Int × Unit) => Option.bind (F26 ((h2_0, h2_1, h3, h2_3, ()), ())) fun (y_1 : Sp × Int × Unit) => Option.bind (F28 (h0, ())) fun (y_2 : List Int × Int × Unit) => Option.bind (F28 ((h2_0, h2_1, h3, h2_3, ()), ())) fun (y_3 : List Int × Int × Unit) => bif !eqD (Ty.struct [Ty.int IntKind.i64, Ty.int IntKind.i64]) y.1 y_1.1 then some (false, ()) else bif y.2.1 != y_1.2.1 then some (false, ()) else Option.bind (F30 (y_2.1, y_3.1, ())) fun (y_4 : Bool × Unit) => bif !y_4.1 then some (false, ()) else bif y_2.2.1 != y_3.2.1 then some (false, ()) else bif decide (IntKind.wrap IntKind.i64 (31 - t5) = 0) then none else T14_1 t5 (Int.tmod (IntKind.wrap IntKind.i64 (List.getD h1 1 0)) (IntKind.wrap IntKind.i64 (31 - t5))) 0 h0 h2_0 h2_1 h2_3 y.1 y_1.1 h3 k : Option (denL [.bool])) = some y) : Ev fun k => T14_0 t5 t7 h0 h1 h2_0 h2_1 h2_3 h3 k = some y := iter_ev (Ev.eq (fun _ => by kernel_rfl) h)
theorem R14_1 (t5 : Int) (t17 : Int) (t18 : Int) (h0 : Su) (h1_0 : (List Sp)) (h1_1 : Int) (h1_3 : (List Tl)) (h2 : Sp) (h3 : Sp) (h4 : (List Sn)) {y : denL [.bool]} (h : Ev fun k =>
 (bif decide (t18 < (↑(List.length h0.2.2.1) : Int)) then Option.bind (F31 (h0, t18, t17, ())) fun (y : Sp × Int × Unit) => Option.bind (F31 ((h1_0, h1_1, h4, h1_3, ()), t18, IntKind.wrap IntKind.i64 (t17 + t5), ())) fun (y_1 : Sp × Int × Unit) => Option.bind (F33 (h0, t18, t17, ())) fun (y_2 : Int × Int × Unit) => Option.bind (F33 ((h1_0, h1_1, h4, h1_3, ()), t18, IntKind.wrap IntKind.i64 (t17 + t5), ())) fun (y_3 : Int × Int × Unit) => bif !eqD (Ty.struct [Ty.int IntKind.i64, Ty.int IntKind.i64]) y.1 y_1.1 then some (false, ()) else bif y.2.1 != y_1.2.1 then some (false, ()) else bif y_2.1 != y_3.1 then some (false, ()) else bif y_2.2.1 != y_3.2.1 then some (false, ()) else T14_1 t5 t17 (IntKind.wrap IntKind.i64 (t18 + 1)) h0 h1_0 h1_1 h1_3 y.1 y_1.1 h4 k else Option.bind (F25 ()) fun (y : Bool × Unit) => some (y.1, ()) : Option (denL [.bool])) = some y) : Ev fun k => T14_1 t5 t17 t18 h0 h1_0 h1_1 h1_3 h2 h3 h4 k = some y := iter_ev (Ev.eq (fun _ => by kernel_rfl) h)
theorem N14 (t0 : Su) (t1 : (List Int)) {y : denL [.bool]} (h : Ev fun k =>
 (bif decide (List.length t0.2.2.1 ≤ 5864062014805) then T14_0 (Int.tmod (IntKind.wrap IntKind.i64 (List.getD t1 0 0)) 12) 0 t0 t1 t0.1 t0.2.1 t0.2.2.2.1 t0.2.2.1 k else none : Option (denL [.bool])) = some y) : F14 (t0, (t1, ())) = some y := ghost_eq (Ev.eq (fun _ => by kernel_rfl) h)
end Go.Proofs.Ytkhhbpocmmmnmaa
/- TurningLater: when all was seen some days later, all is some days later. Conditions: what was seen takes no more than memory bears. -/
namespace Go.Proofs.Ytkhhbpocmmmnmaa
open Go Go.Gh Go.Proofs
def shiftP (d : Int) (x : Sn) : Sn := (IntKind.wrap IntKind.i64 ((if 30 < x.1 then 30 else x.1) + d), x.2)
def laterP (s : Su) (d : Int) : Su := (s.1, s.2.1, s.2.2.1.map (shiftP d), s.2.2.2.1, ())
theorem gExt_congr {ok ok' : List Int → Nat → Nat → Bool} {n : Nat} (h : ∀ p i k, i < n → ok p i k = ok' p i k) : ∀ (c : Nat) (p : List Int), p.length + c = n → gExt ok c p = gExt ok' c p
 | 0, _, _ => rfl
 | c + 1, p, hp => by
  unfold gExt
  congr 1
  funext k
  rw [h p p.length k (by omega), gExt_congr h c (p ++ [(k : Int)]) (by rw [List.length_append, List.length_singleton]; omega)]
theorem rExt_congr {q s : Su} (h : q.1 = s.1) : ∀ (c : Nat) (m : Int) (p : List Int), rExt q c m p = rExt s c m p
 | 0, _, _ => rfl
 | c + 1, m, p => by
  unfold rExt
  rw [h]
  congr 1
  funext v
  exact rExt_congr h c v _
section
variable {s : Su} {d : Int} (hs : VS s) (d0 : 0 ≤ d) (d1 : d ≤ 30)
 include hs d0 d1
theorem later_seen {a : Nat} (ha : a < s.2.2.1.length) : (laterP s d).2.2.1.getD a sn0 = ((s.2.2.1.getD a sn0).1 + d, (s.2.2.1.getD a sn0).2) := by
 have h := (hs.seen a ha).1
 show (s.2.2.1.map (shiftP d)).getD a sn0 = _
 rw [getD_lt ha] at h
 rw [getD_lt (l := s.2.2.1.map (shiftP d)) (by rw [List.length_map]; exact ha), List.getElem_map, getD_lt ha]
 unfold shiftP
 rw [if_neg (by omega), wrap_id (by omega) (by omega)]
theorem later_place {a : Nat} (ha : a < s.2.2.1.length) (r : List Int) (day : Int) : placeP ((laterP s d).2.2.1.getD a sn0) r (day + d) = placeP (s.2.2.1.getD a sn0) r day := by
 rw [later_seen hs d0 d1 ha]
 unfold placeP
 simp only
 congr 2
 omega
theorem later_can (r : List Int) {a b : Nat} (ha : a < s.2.2.1.length) (hb : b < s.2.2.1.length) : canP (laterP s d) r a b = canP s r a b := by
 rw [canP_eq, canP_eq]
 have e := later_place hs d0 d1 ha r (s.2.2.1.getD b sn0).1
 have ea := later_seen hs d0 d1 ha
 have eb := later_seen hs d0 d1 hb
 have f : (laterP s d).2.1 = s.2.1 := rfl
 rw [eb, e, ea, f]
 have : ((s.2.2.1.getD a sn0).1 + d != (s.2.2.1.getD b sn0).1 + d) = ((s.2.2.1.getD a sn0).1 != (s.2.2.1.getD b sn0).1) := by
  rw [Bool.eq_iff_iff, bne_iff_ne, bne_iff_ne]
  omega
 rw [this]
theorem later_tr : trP (laterP s d) = trP s := by
 unfold trP truthsP
 have e1 : ratesP (laterP s d) = ratesP s := rExt_congr (q := laterP s d) (s := s) rfl _ _ _
 have e2 : ∀ r, partsP (laterP s d) r = partsP s r := fun r => by
  unfold partsP
  rw [show (laterP s d).2.2.1.length = s.2.2.1.length from List.length_map ..]
  refine gExt_congr (n := s.2.2.1.length) (fun p i k hi => ?_) _ [] (Nat.zero_add _)
  unfold okP joinsP
  congr 2
  rw [Bool.eq_iff_iff, List.all_eq_true, List.all_eq_true]
  refine forall_congr' fun a => forall_congr' fun ha => ?_
  have := List.mem_range.1 ha
  rw [later_can hs d0 d1 r hi (by omega)]
 rw [e1]
 congr 1
 funext r
 rw [e2 r]
 rfl
end
theorem errP_eq {q s : Su} (hq : VS q) (hs : VS s) (ht : trP q = trP s) (l : List Ak) : errP q l = errP s l := by
 unfold errP
 rw [(chkP_ok q).2 hq, (chkP_ok s).2 hs, ht]
theorem set_split {α : Type} (f : α → α) : ∀ (pre : List α) (x : α) (r : List α), ((pre.map f) ++ x :: r).set pre.length (f x) = (pre ++ [x]).map f ++ r := by
 intro pre x r
 rw [List.set_append_right _ _ (by rw [List.length_map]; omega), List.length_map, Nat.sub_self, List.set_cons_zero, List.map_append]
 simp
theorem L14 (s : Su) (x : List Int) (hx : ∀ v ∈ x, 0 ≤ v ∧ v ≤ 255) (hlen : s.2.2.1.length * 24 ≤ 140737488351232) : F14 ((s, x, ()) : Su × List Int × Unit) = some (true, ()) := by
 refine N14 _ _ ?_
 obtain ⟨n0, e0, b0⟩ := u8_at hx 0
 obtain ⟨n1, e1, b1⟩ := u8_at hx 1
 rw [dec_t (show s.2.2.1.length ≤ 5864062014805 by omega), e0, wrap_id (x := (n0 : Int)) (by omega) (by omega), show Int.tmod (n0 : Int) 12 = ((n0 % 12 : Nat) : Int) by rw [Int.tmod_eq_emod_of_nonneg (by omega)]; simp]
 obtain ⟨d, hd⟩ : ∃ d, d = n0 % 12 := ⟨_, rfl⟩
 have d1 : d ≤ 11 := by omega
 rw [← hd]
 have copy : ∀ (c i : Nat) (pre rest : List Sn), s.2.2.1 = pre ++ rest → pre.length = i → rest.length = c → Ev fun k => T14_0 (d : Int) (i : Int) s x s.1 s.2.1 s.2.2.2.1 (pre.map (shiftP d) ++ rest) k = some (true, ()) := by
  intro c
  induction c with
  | succ c ih =>
   intro i pre rest he hp hr
   match rest, hr with
   | z :: r, hr =>
    refine R14_0 _ _ _ _ _ _ _ _ ?_
    have hl : i < (pre.map (shiftP d) ++ z :: r).length := by rw [List.length_append, List.length_map, hp, List.length_cons]; omega
    have hl2 : s.2.2.1.length = i + (r.length + 1) := by rw [he, List.length_append, hp, List.length_cons]
    have g : (pre.map (shiftP d) ++ z :: r).getD i (0, 0, 0, ()) = z := by
     rw [getD_lt hl, List.getElem_append_right (by rw [List.length_map]; omega)]
     simp [hp]
    rw [dec_t (show (i : Int) < ((pre.map (shiftP d) ++ z :: r).length : Int) by omega), dec_t (show (0 : Int) ≤ (i : Int) by omega), Int.toNat_natCast, dec_t hl, g, wrap_id (x := (i : Int) + 1) (by omega) (by omega)]
    have st := set_split (shiftP d) pre z r
    rw [hp] at st
    have := ih (i + 1) (pre ++ [z]) r (by rw [he]; simp) (by rw [List.length_append, hp]; rfl) (by rw [List.length_cons] at hr; omega)
    rw [← st] at this
    exact this
  | zero =>
   intro i pre rest he hp hr
   obtain rfl := List.length_eq_zero_iff.1 hr
   rw [List.append_nil] at he ⊢
   subst he
   refine R14_0 _ _ _ _ _ _ _ _ ?_
   rw [dec_f (by rw [List.length_map]; omega), L40, show ((s.1, s.2.1, s.2.2.1.map (shiftP d), s.2.2.2.1, ()) : Su) = laterP s d from rfl, L40]
   simp only [cond_false, Option.bind_some]
   cases hv : validP s with
   | false =>
    simp only [Bool.not_false, cond_true]
    exact awake_end rfl
   | true =>
    simp only [Bool.not_true, cond_false]
    cases hw : validP (laterP s d) with
    | false =>
     simp only [Bool.not_false, cond_true]
     exact awake_end rfl
    | true =>
     have hs := validP_t.1 hv
     have hq := validP_t.1 hw
     have h5 : s.2.2.1.length ≤ 5 := hs.n5
     have htr := later_tr hs (d := (d : Int)) (by omega) (by omega)
     have hlq : (laterP s d).2.2.1.length = s.2.2.1.length := List.length_map ..
     have herr := errP_eq hq hs htr
     have hg : groupsP (laterP s d) = groupsP s := by
      unfold groupsP
      rw [herr, htr, hlq]
     have hf : fewestP (laterP s d) = fewestP s := by
      unfold fewestP
      rw [herr, htr, hlq]
     simp only [Bool.not_true, cond_false]
     rw [L26, L26, L28, L28, hg, hf]
     simp only [Option.bind_some, bne_self_eq_false, cond_false]
     rw [eqSp, decide_eq_true rfl, L30 _ _ fewest_len, e1, wrap_id (x := (n1 : Int)) (by omega) (by omega), wrap_id (x := (31 : Int) - (d : Int)) (by omega) (by omega), dec_f (show ¬ ((31 : Int) - (d : Int) = 0) by omega), show Int.tmod (n1 : Int) ((31 : Int) - (d : Int)) = ((n1 % (31 - d) : Nat) : Int) by
      rw [Int.tmod_eq_emod_of_nonneg (by omega), show (31 : Int) - (d : Int) = ((31 - d : Nat) : Int) by omega]; simp]
     simp only [Option.bind_some, Bool.not_true, cond_false, decide_true]
     have hday : n1 % (31 - d) < 31 - d := Nat.mod_lt _ (by omega)
     generalize n1 % (31 - d) = day at hday
     have things : ∀ (c a : Nat) (h2 h3 : Sp), a + c = s.2.2.1.length → Ev fun k => T14_1 (d : Int) (day : Int) (a : Int) s s.1 s.2.1 s.2.2.2.1 h2 h3 (s.2.2.1.map (shiftP d)) k = some (true, ()) := by
      intro c
      induction c with
      | zero =>
       intro a h2 h3 ha
       refine R14_1 _ _ _ _ _ _ _ _ _ _ ?_
       rw [dec_f (by omega)]
       exact awake_end rfl
      | succ c ih2 =>
       intro a h2 h3 ha
       have ha' : a < s.2.2.1.length := by omega
       refine R14_1 _ _ _ _ _ _ _ _ _ _ ?_
       have hask : askD (laterP s d) (a : Int) ((day : Int) + (d : Int)) = askD s (a : Int) (day : Int) := by
        unfold askD
        rw [hlq, outP_f.2 (show 0 ≤ (day : Int) + (d : Int) ∧ (day : Int) + (d : Int) < 31 by omega), outP_f.2 (show 0 ≤ (day : Int) ∧ (day : Int) < 31 by omega)]
       have hpl : ∀ r, placeP ((laterP s d).2.2.1.getD ((a : Int)).toNat sn0) r ((day : Int) + (d : Int)) = placeP (s.2.2.1.getD ((a : Int)).toNat sn0) r (day : Int) := fun r => by
        rw [Int.toNat_natCast]
        exact later_place hs (by omega) (by omega) ha' r _
       have w : whereP (laterP s d) (a : Int) ((day : Int) + (d : Int)) = whereP s (a : Int) (day : Int) := by
        unfold whereP
        rw [hask, herr, htr]
        simp only [hpl]
       have h : hiddenP (laterP s d) (a : Int) ((day : Int) + (d : Int)) = hiddenP s (a : Int) (day : Int) := by
        unfold hiddenP
        rw [hask, herr, htr]
        simp only [hpl]
       rw [dec_t (show (a : Int) < (s.2.2.1.length : Int) by omega), L31, show ((s.1, s.2.1, s.2.2.1.map (shiftP d), s.2.2.2.1, ()) : Su) = laterP s d from rfl, wrap_id (x := (day : Int) + (d : Int)) (by omega) (by omega), L31, L33, L33, w, h, wrap_succ (n := a) (by omega)]
       simp only [cond_true, Option.bind_some, bne_self_eq_false, cond_false]
       rw [eqSp, decide_eq_true rfl]
       exact ih2 (a + 1) _ _ (by omega)
     exact things s.2.2.1.length 0 _ _ (Nat.zero_add _)
 have := copy s.2.2.1.length 0 [] s.2.2.1 rfl rfl rfl
 exact this
end Go.Proofs.Ytkhhbpocmmmnmaa
