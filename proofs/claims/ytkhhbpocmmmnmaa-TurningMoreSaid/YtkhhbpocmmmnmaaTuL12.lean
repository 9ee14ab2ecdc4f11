/- What the ghost comes to: TuEq12. Conditions: none (equations, each by computation). -/
import Derived.Test.YtkhhbpocmmmnmaaTuKm
import Derived.Test.YtkhhbpocmmmnmaaTuV
import Derived.Test.YtkhhbpocmmmnmaaTuL13
namespace Go.Proofs.Ytkhhbpocmmmnmaa
open Go Go.Gh Go.Proofs
def S12 : List Gh.Spec := [{ key := (0, 12, 10, 1), frs := [{ fn := 12, n := 193, regs := [(2, (.dat (.int .u8))), (3, (.ptr 120003 [])), (7, (.ptr 120007 [])), (8, (.ptr 120008 [])), (10, (.ptr 120010 [])), (12, (.dat (.int .i64)))], round := none, defers := [] }], heap := [(120003, .box (.dat tSu) false), (120007, .box (.agg [(.dat (.slice tSp)), (.dat (.int .i64)), (.dat (.slice tSn)), (.row 120024)]) false), (120008, .box (.dat tSp) false), (120010, .box (.dat tSp) false), (120024, .row tTl true)] }, { key := (0, 12, 18, 1), frs := [{ fn := 12, n := 193, regs := [(3, (.ptr 120003 [])), (7, (.ptr 120007 [])), (8, (.ptr 120008 [])), (10, (.ptr 120010 [])), (13, (.dat (.int .i64))), (14, (.dat (.int .i64)))], round := none, defers := [] }], heap := [(120003, .box (.dat tSu) false), (120007, .box (.agg [(.dat (.slice tSp)), (.dat (.int .i64)), (.dat (.slice tSn)), (.row 120024)]) false), (120008, .box (.dat tSp) false), (120010, .box (.dat tSp) false), (120024, .row tTl true)] }, { key := (0, 12, 27, 1), frs := [{ fn := 12, n := 193, regs := [(3, (.ptr 120003 [])), (7, (.ptr 120007 [])), (8, (.ptr 120008 [])), (10, (.ptr 120010 [])), (13, (.dat (.int .i64))), (14, (.dat (.int .i64))), (19, (.dat (.int .i64)))], round := none, defers := [] }], heap := [(120003, .box (.dat tSu) false), (120007, .box (.agg [(.dat (.slice tSp)), (.dat (.int .i64)), (.dat (.slice tSn)), (.row 120024)]) false), (120008, .box (.dat tSp) false), (120010, .box (.dat tSp) false), (120024, .row tTl true)] }]
noncomputable def K12_0 : Kept := { todos := [[.inLoop (cAt Try.f12 [1, 1, 1, 1, 1, 1, 1, 0, 1, 0, 0]), .inBlock 0, .code (cAt Try.f12 [1, 1, 1, 1, 1, 1, 1, 1])]], cs := [noCodes, noCodes, noCodes, noCodes, noCodes] }
noncomputable def K12_1 : Kept := { todos := [[.inLoop (cAt Try.f12 [1, 1, 1, 1, 1, 1, 1, 1, 1, 0, 1, 0, 0]), .inBlock 2, .code (cAt Try.f12 [1, 1, 1, 1, 1, 1, 1, 1, 1, 1])]], cs := [noCodes, noCodes, noCodes, noCodes, noCodes] }
noncomputable def K12_2 : Kept := { todos := [[.inLoop (cAt Try.f12 [1, 1, 1, 1, 1, 1, 1, 1, 1, 0, 1, 0, 0, 1, 0, 0, 1, 1, 1, 1, 1, 1, 0, 0]), .inBlock 4, .inBlock 3, .code (cAt Try.f12 [1, 1, 1, 1, 1, 1, 1, 1, 1, 0, 1, 0, 0, 1, 1]), .inLoop (cAt Try.f12 [1, 1, 1, 1, 1, 1, 1, 1, 1, 0, 1, 0, 0]), .inBlock 2, .code (cAt Try.f12 [1, 1, 1, 1, 1, 1, 1, 1, 1, 1])]], cs := [noCodes, noCodes, noCodes, noCodes, noCodes] }
noncomputable def F12 : denL [tSu, tTl, (.int .u8)] → Option (denL [.bool]) := ghost cxM S12 6000 12 [tSu, tTl, (.int .u8)] [.bool]
noncomputable abbrev T12_0 (t2 : Int) (t12 : Int) (h0 : Su) (h1_0 : (List Sp)) (h1_1 : Int) (h1_2 : (List Sn)) (h2 : Sp) (h3 : Sp) (h4 : (List Tl)) (f : Nat) : Option (denL [.bool]) := iter cxM S12 [.bool] 6000 f 0 K12_0 (((t2, ((), ((), ((), ((), (t12, ())))))), ()), (h0, ((h1_0, (h1_1, (h1_2, ((), ())))), (h2, (h3, (h4, ()))))))
noncomputable abbrev T12_1 (t13 : Int) (t14 : Int) (h0 : Su) (h1_0 : (List Sp)) (h1_1 : Int) (h1_2 : (List Sn)) (h2 : Sp) (h3 : Sp) (h4 : (List Tl)) (f : Nat) : Option (denL [.bool]) := iter cxM S12 [.bool] 6000 f 1 K12_1 ((((), ((), ((), ((), (t13, (t14, ())))))), ()), (h0, ((h1_0, (h1_1, (h1_2, ((), ())))), (h2, (h3, (h4, ()))))))
noncomputable abbrev T12_2 (t13 : Int) (t14 : Int) (t19 : Int) (h0 : Su) (h1_0 : (List Sp)) (h1_1 : Int) (h1_2 : (List Sn)) (h2 : Sp) (h3 : Sp) (h4 : (List Tl)) (f : Nat) : Option (denL [.bool]) := iter cxM S12 [.bool] 6000 f 2 K12_2 ((((), ((), ((), ((), (t13, (t14, (t19, ()))))))), ()), (h0, ((h1_0, (h1_1, (h1_2, ((), ())))), (h2, (h3, (h4, ()))))))
theorem R12_0 (t2 : Int) (t12 : Int) (h0 : Su) (h1_0 : (List Sp)) (h1_1 : Int) (h1_2 : (List Sn)) (h2 : Sp) (h3 : Sp) (h4 : (List Tl)) {y : denL [.bool]} (h : Ev fun k =>
 (bif decide (t12 < (↑(List.length h0.1) : Int)) then Option.bind (F21 (h0, t12, ())) fun (y : Sp × Int × Unit) => Option.bind (F21 ((h1_0, h1_1, h1_2, h4, ()), t12, ())) fun (y_1 : Sp × Int × Unit) => bif y.2.1 != 0 then some (false, ()) else bif y_1.2.1 != 0 then some (false, ()) else Option.bind (F54 (y_1.1, y.1, ())) fun (y_2 : Bool × Unit) => bif !y_2.1 then some (false, ()) else T12_0 t2 (IntKind.wrap IntKind.i64 (t12 + 1)) h0 h1_0 h1_1 h1_2 y.1 y_1.1 h4 k else T12_1 (Int.tmod (IntKind.wrap IntKind.i64 t2) 31) 0 h0 h1_0 h1_1 h1_2 h2 h3 h4 k : Option (denL [.bool])) = some y) : Ev fun k => T12_0 t2 t12 h0 h1_0 h1_1 h1_2 h2 h3 h4 k = some y := iter_ev (Ev.eq (fun _ => by kernel_rfl) h)
theorem R12_1 (t13 : Int) (t14 : Int) (h0 : Su) (h1_0 : (List Sp)) (h1_1 : Int) (h1_2 : (List Sn)) (h2 : Sp) (h3 : Sp) (h4 : (List Tl)) {y : denL [.bool]} (h : Ev fun k =>
 (bif decide (t14 < (↑(List.length h0.2.2.1) : Int)) then Option.bind (F31 (h0, t14, t13, ())) fun (y : Sp × Int × Unit) => Option.bind (F31 ((h1_0, h1_1, h1_2, h4, ()), t14, t13, ())) fun (y_1 : Sp × Int × Unit) => Option.bind (F33 (h0, t14, t13, ())) fun (y_2 : Int × Int × Unit) => Option.bind (F33 ((h1_0, h1_1, h1_2, h4, ()), t14, t13, ())) fun (y_3 : Int × Int × Unit) => bif y.2.1 != 0 then some (false, ()) else bif y_1.2.1 != 0 then some (false, ()) else bif y_2.2.1 != 0 then some (false, ()) else bif y_3.2.1 != 0 then some (false, ()) else Option.bind (F54 (y_1.1, y.1, ())) fun (y_4 : Bool × Unit) => bif !y_4.1 then some (false, ()) else bif y_2.1 != 0 then bif y_2.1 != y_3.1 then some (false, ()) else T12_2 t13 t14 0 h0 h1_0 h1_1 h1_2 y.1 y_1.1 h4 k else T12_2 t13 t14 0 h0 h1_0 h1_1 h1_2 y.1 y_1.1 h4 k else Option.bind (F25 ()) fun (y : Bool × Unit) => some (y.1, ()) : Option (denL [.bool])) = some y) : Ev fun k => T12_1 t13 t14 h0 h1_0 h1_1 h1_2 h2 h3 h4 k = some y := iter_ev (Ev.eq (fun _ => by kernel_rfl) h)
theorem R12_2 (t13 : Int) (t14 : Int) (t19 : Int) (h0 : Su) (h1_0 : (List Sp)) (h1_1 : Int) (h1_2 : (List Sn)) (h2 : Sp) (h3 : Sp) (h4 : (List Tl)) {y : denL [.bool]} (h : Ev fun k =>
 (bif decide (t19 < t14) then Option.bind (F23 (h0, t14, t19, ())) fun (y : Int × Int × Unit) => Option.bind (F23 ((h1_0, h1_1, h1_2, h4, ()), t14, t19, ())) fun (y_1 : Int × Int × Unit) => bif y.2.1 != 0 then some (false, ()) else bif y_1.2.1 != 0 then some (false, ()) else bif y.1 != 0 then bif y.1 != y_1.1 then some (false, ()) else T12_2 t13 t14 (IntKind.wrap IntKind.i64 (t19 + 1)) h0 h1_0 h1_1 h1_2 h2 h3 h4 k else T12_2 t13 t14 (IntKind.wrap IntKind.i64 (t19 + 1)) h0 h1_0 h1_1 h1_2 h2 h3 h4 k else T12_1 t13 (IntKind.wrap IntKind.i64 (t14 + 1)) h0 h1_0 h1_1 h1_2 h2 h3 h4 k : Option (denL [.bool])) = some y) : Ev fun k => T12_2 t13 t14 t19 h0 h1_0 h1_1 h1_2 h2 h3 h4 k = some y := iter_ev (Ev.eq (fun _ => by kernel_rfl) h)
theorem N12 (t0 : Su) (t1 : Tl) (t2 : Int) {y : denL [.bool]} (h : Ev fun k =>
 (bif decide (List.length t0.2.2.2.1 ≤ 5864062014805) then bif decide (List.length t0.2.2.2.1 + List.length (List.set (List.replicate 1 (0, 0, false, ())) 0 t1) ≤ 5864062014805) then Option.bind (F47 (t0, ())) fun (y : Bool × Unit) => bif !y.1 then Option.bind (F25 ()) fun (y : Bool × Unit) => some (y.1, ()) else Option.bind (F47 ((t0.1, t0.2.1, t0.2.2.1, t0.2.2.2.1 ++ List.set (List.replicate 1 (0, 0, false, ())) 0 t1, ()), ())) fun (y : Bool × Unit) => bif !y.1 then Option.bind (F25 ()) fun (y : Bool × Unit) => some (y.1, ()) else Option.bind (F26 (t0, ())) fun (y : Sp × Int × Unit) => Option.bind (F26 ((t0.1, t0.2.1, t0.2.2.1, t0.2.2.2.1 ++ List.set (List.replicate 1 (0, 0, false, ())) 0 t1, ()), ())) fun (y_1 : Sp × Int × Unit) => bif y.2.1 != 0 then some (false, ()) else bif y_1.2.1 != 0 then some (false, ()) else Option.bind (F54 (y_1.1, y.1, ())) fun (y_2 : Bool × Unit) => bif !y_2.1 then some (false, ()) else T12_0 t2 0 t0 t0.1 t0.2.1 t0.2.2.1 y.1 y_1.1 (t0.2.2.2.1 ++ List.set (List.replicate 1 (0, 0, false, ())) 0 t1) k else none else none : Option (denL [.bool])) = some y) : F12 (t0, (t1, (t2, ()))) = some y := ghost_eq (Ev.eq (fun _ => by kernel_rfl) h)
end Go.Proofs.Ytkhhbpocmmmnmaa
/- TurningMore: with one more thing told nothing is wider. Conditions: what is told takes no more than memory bears. -/
namespace Go.Proofs.Ytkhhbpocmmmnmaa
open Go Go.Gh Go.Proofs
def moreP (s : Su) (c : Tl) : Su := (s.1, s.2.1, s.2.2.1, s.2.2.2.1 ++ [c], ())
theorem more_truth {s : Su} {c : Tl} {t : Tr} (h : t ∈ refL (moreP s c)) : t ∈ refL s := by
 have h := mem_refL.1 h
 refine mem_refL.2 ⟨⟨h.rt.len, h.rt.bd, h.rt.fall⟩, ⟨h.gt.len, h.gt.low⟩, soP_iff.2 fun i hi hb => ?_, h.fits⟩
 have := soP_iff.1 h.so i (by show i < (s.2.2.2.1 ++ [c]).length; rw [List.length_append]; omega) hb
 have e : (moreP s c).2.2.2.1.getD i tl0 = s.2.2.2.1.getD i tl0 := by
  show (s.2.2.2.1 ++ [c]).getD i tl0 = _
  rw [getD_lt (by rw [List.length_append]; omega), getD_lt hi, List.getElem_append_left hi]
 rw [e] at this
 exact this
theorem within_sub {L L' : List Tr} {f : Tr → Int} (hne : L' ≠ []) (hs : ∀ t ∈ L', t ∈ L) : withinP (hullL (L'.map f)) (hullL (L.map f)) = true := by
 obtain ⟨⟨t1, m1, e1⟩, t2, m2, e2⟩ := hull_map_at (f := f) hne
 have h1 := (hull_map_le (f := f) (hs t1 m1)).1
 have h2 := (hull_map_le (f := f) (hs t2 m2)).2
 unfold withinP
 rw [dec_t (by omega), dec_t (by omega)]
 rfl
theorem sett_sub {q : Tr → Bool} {L L' : List Tr} (hL : L ≠ []) (hL' : L' ≠ []) (hs : ∀ t ∈ L', t ∈ L) (h : sett q L ≠ 0) : sett q L' = sett q L := by
 rcases sett_cases q L with e | e | e
 ·exact absurd e h
 ·rw [e, sett_must.2 fun t ht => sett_must.1 e t (hs t ht)]
 ·rw [e, (sett_never hL').2 fun t ht => (sett_never hL).1 e t (hs t ht)]
theorem L12 (s : Su) (c : Tl) (seen : Int) (hx : 0 ≤ seen ∧ seen ≤ 255) (hlen : s.2.2.2.1.length * 24 ≤ 140737488351232) : F12 ((s, c, seen, ()) : Su × Tl × Int × Unit) = some (true, ()) := by
 refine N12 _ _ _ ?_
 rw [show List.set (List.replicate 1 ((0, 0, false, ()) : Tl)) 0 c = [c] from rfl, dec_t (show s.2.2.2.1.length ≤ 5864062014805 by omega), dec_t (show s.2.2.2.1.length + [c].length ≤ 5864062014805 by simp only [List.length_cons, List.length_nil]; omega), L47, show ((s.1, s.2.1, s.2.2.1, s.2.2.2.1 ++ [c], ()) : Su) = moreP s c from rfl, L47]
 simp only [cond_true, Option.bind_some]
 cases hv : someP s with
 | false =>
  simp only [Bool.not_false, cond_true]
  exact awake_end rfl
 | true =>
  simp only [Bool.not_true, cond_false]
  cases hw : someP (moreP s c) with
  | false =>
   simp only [Bool.not_false, cond_true]
   exact awake_end rfl
  | true =>
   obtain ⟨hs, ht⟩ := someP_t.1 hv
   obtain ⟨hq, hqt⟩ := someP_t.1 hw
   have h3 : s.1.length ≤ 3 := hs.b3
   have h5 : s.2.2.1.length ≤ 5 := hs.n5
   have hsub : ∀ t ∈ refL (moreP s c), t ∈ refL s := fun t => more_truth
   have hne := refL_ne hs ht
   have hqne := refL_ne hq hqt
   obtain ⟨n, rfl⟩ := Int.eq_ofNat_of_zero_le hx.1
   simp only [Bool.not_true, cond_false]
   rw [L26, L26, groups_ok hs ht, groups_ok hq hqt]
   simp only [Option.bind_some, bne_self_eq_false, cond_false]
   rw [L54, show withinP (hullL ((refL (moreP s c)).map fun t => (manyP (moreP s c).2.2.1.length t.2.1 : Int))) (hullL ((refL s).map fun t => (manyP s.2.2.1.length t.2.1 : Int))) = true from within_sub hqne hsub]
   simp only [Option.bind_some, Bool.not_true, cond_false]
   have things : ∀ (d a : Nat) (day : Nat) (h2 h3 : Sp), day ≤ 30 → a + d = s.2.2.1.length → Ev fun k => T12_1 (day : Int) (a : Int) s s.1 s.2.1 s.2.2.1 h2 h3 (s.2.2.2.1 ++ [c]) k = some (true, ()) := by
    intro d
    induction d with
    | zero =>
     intro a day h2 h3 hd ha
     refine R12_1 _ _ _ _ _ _ _ _ _ ?_
     rw [dec_f (by omega)]
     exact awake_end rfl
    | succ d ih =>
     intro a day h2 h3 hd ha
     have inner : ∀ (e b : Nat) (h2 h3 : Sp), b + e = a → Ev fun k => T12_2 (day : Int) (a : Int) (b : Int) s s.1 s.2.1 s.2.2.1 h2 h3 (s.2.2.2.1 ++ [c]) k = some (true, ()) := by
      intro e
      induction e with
      | zero =>
       intro b h2 h3 hb
       refine R12_2 _ _ _ _ _ _ _ _ _ _ ?_
       rw [dec_f (by omega), wrap_succ (n := a) (by omega)]
       exact ih (a + 1) day h2 h3 hd (by omega)
      | succ e ih2 =>
       intro b h2 h3 hb
       refine R12_2 _ _ _ _ _ _ _ _ _ _ ?_
       have sp := same_ok hs ht (a := a) (c := b) (by omega) (by omega) (by omega)
       have sq := same_ok hq hqt (a := a) (c := b) (by show a < s.2.2.1.length; omega) (by show b < s.2.2.1.length; omega) (by omega)
       have imp := sett_sub (q := fun t => t.2.1.getD a 0 == t.2.1.getD b 0) hne hqne hsub
       rw [dec_t (show (b : Int) < (a : Int) by omega), L23, show ((s.1, s.2.1, s.2.2.1, s.2.2.2.1 ++ [c], ()) : Su) = moreP s c from rfl, L23, sp, sq, wrap_succ (n := b) (by omega)]
       simp only [cond_true, Option.bind_some, bne_self_eq_false, cond_false]
       by_cases h0 : sett (fun t => t.2.1.getD a 0 == t.2.1.getD b 0) (refL s) = 0
       ·rw [nbq h0]
        exact ih2 (b + 1) h2 h3 (by omega)
       ·rw [nbqf h0, nbq (imp h0).symm]
        exact ih2 (b + 1) h2 h3 (by omega)
     refine R12_1 _ _ _ _ _ _ _ _ _ ?_
     have wp := where_ok hs ht (a := a) (day := (day : Int)) (by omega) (by omega) (by omega)
     have wq := where_ok hq hqt (a := a) (day := (day : Int)) (by show a < s.2.2.1.length; omega) (by omega) (by omega)
     have hp := hidden_ok hs ht (a := a) (day := (day : Int)) (by omega) (by omega) (by omega)
     have hh := hidden_ok hq hqt (a := a) (day := (day : Int)) (by show a < s.2.2.1.length; omega) (by omega) (by omega)
     have imp := sett_sub (q := fun t => farP (placeP (s.2.2.1.getD a sn0) t.1 (day : Int)) 90) hne hqne hsub
     rw [dec_t (show (a : Int) < (s.2.2.1.length : Int) by omega), L31, show ((s.1, s.2.1, s.2.2.1, s.2.2.2.1 ++ [c], ()) : Su) = moreP s c from rfl, L31, L33, L33, wp, wq, hp, hh]
     simp only [cond_true, Option.bind_some, bne_self_eq_false, cond_false]
     rw [L54, show withinP (hullL ((refL (moreP s c)).map fun t => placeP ((moreP s c).2.2.1.getD a sn0) t.1 (day : Int))) (hullL ((refL s).map fun t => placeP (s.2.2.1.getD a sn0) t.1 (day : Int))) = true from within_sub hqne hsub]
     simp only [Option.bind_some, Bool.not_true, cond_false]
     by_cases h0 : sett (fun t => farP (placeP (s.2.2.1.getD a sn0) t.1 (day : Int)) 90) (refL s) = 0
     ·rw [nbq h0]
      exact inner a 0 _ _ (by omega)
     ·rw [nbqf h0, show (sett (fun t => farP (placeP (s.2.2.1.getD a sn0) t.1 (day : Int)) 90) (refL s) != sett (fun t => farP (placeP ((moreP s c).2.2.1.getD a sn0) t.1 (day : Int)) 90) (refL (moreP s c))) = false from nbq (imp h0).symm]
      exact inner a 0 _ _ (by omega)
   have belts : ∀ (d b : Nat) (h2 h3 : Sp), b + d = s.1.length → Ev fun k => T12_0 (n : Int) (b : Int) s s.1 s.2.1 s.2.2.1 h2 h3 (s.2.2.2.1 ++ [c]) k = some (true, ()) := by
    intro d
    induction d with
    | zero =>
     intro b h2 h3 hb
     refine R12_0 _ _ _ _ _ _ _ _ _ ?_
     rw [dec_f (by omega), wrap_id (x := (n : Int)) (by omega) (by omega), show Int.tmod (n : Int) 31 = ((n % 31 : Nat) : Int) by rw [Int.tmod_eq_emod_of_nonneg (by omega)]; simp]
     exact things s.2.2.1.length 0 (n % 31) _ _ (by omega) (Nat.zero_add _)
    | succ d ih =>
     intro b h2 h3 hb
     refine R12_0 _ _ _ _ _ _ _ _ _ ?_
     have rp := rate_ok hs ht (b := b) (by omega)
     have rq := rate_ok hq hqt (b := b) (by show b < s.1.length; omega)
     rw [dec_t (show (b : Int) < (s.1.length : Int) by omega), L21, show ((s.1, s.2.1, s.2.2.1, s.2.2.2.1 ++ [c], ()) : Su) = moreP s c from rfl, L21, rp, rq, wrap_succ (n := b) (by omega)]
     simp only [cond_true, Option.bind_some, bne_self_eq_false, cond_false]
     rw [L54, show withinP (hullL ((refL (moreP s c)).map fun t => t.1.getD b 0)) (hullL ((refL s).map fun t => t.1.getD b 0)) = true from within_sub hqne hsub]
     exact ih (b + 1) _ _ (by omega)
   exact belts s.1.length 0 _ _ (Nat.zero_add _)
end Go.Proofs.Ytkhhbpocmmmnmaa
