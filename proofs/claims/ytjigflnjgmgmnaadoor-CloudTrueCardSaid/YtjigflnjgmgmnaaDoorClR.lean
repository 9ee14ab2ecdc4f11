/- What Month and Told of the reference come to. Conditions: as each lemma states. -/
import Derived.Test.YtjigflnjgmgmnaaDoorClT
import Derived.Test.YtjigflnjgmgmnaaDoorGhI
namespace Go.Proofs.YtjigflnjgmgmnaaDoor
open Go Go.Gh Go.Proofs
theorem L113 (a b : Nat) : F113 (((a : Int), (b : Int), ()) : Int × Int × Unit) = some (((Nat.gcd a b : Nat) : Int), ()) := by
 refine ghost_eq (Ev.eq (fun _ => E113 _ _ _) ?_)
 have key : ∀ (n x y : Nat), y ≤ n → Nat.gcd x y = Nat.gcd a b → Ev fun k => iter cx21 S113 [(.int .i64)] 6000 k 0 K113_0 ((((x : Int), ((y : Int), ())), ()), ()) = some (((Nat.gcd a b : Nat) : Int), ()) := by
  intro n
  induction n with
  | zero =>
   intro x y hy hg
   obtain rfl : y = 0 := by omega
   refine iter_ev (Ev.eq (fun _ => Q113_0 _ _ _) ?_)
   rw [← hg, Nat.gcd_zero_right]
   exact Ev.all fun _ => by first | rfl | trivial
  | succ n ih =>
   intro x y hy hg
   refine iter_ev (Ev.eq (fun _ => Q113_0 _ _ _) ?_)
   by_cases h0 : y = 0
   ·subst h0
    rw [← hg, Nat.gcd_zero_right]
    exact Ev.all fun _ => by first | rfl | trivial
   ·have e1 : (((y : Nat) : Int) != 0) = true := by simpa using h0
    rw [e1, dec_f (show ¬ ((y : Int) = 0) by omega)]
    simp only [cond_true, cond_false]
    have e2 : Int.tmod (x : Int) (y : Int) = ((x % y : Nat) : Int) := by
     rw [Int.tmod_eq_emod_of_nonneg (by omega)]; simp
    rw [e2]
    have hlt := Nat.mod_lt x (by omega : 0 < y)
    refine ih y (x % y) (by omega) ?_
    rw [← hg, Nat.gcd_comm x y, Nat.gcd_rec y x, Nat.gcd_comm]
 exact key b a b (Nat.le_refl _) rfl
theorem L43 (a b : Nat) (ha : a < 1000000000) (h1 : 0 < b) (hb : b < 1000000000) : F43 (((a : Int), (b : Int), ()) : Int × Int × Unit) = some (lowP a b, ()) := by
 refine ghost_eq (Ev.eq (fun _ => E43 _ _ _) ?_)
 have e0 : (if IntKind.wrap IntKind.i64 (0 - (a : Int)) > (a : Int) then IntKind.wrap IntKind.i64 (0 - (a : Int)) else (a : Int)) = a := by
  rw [wrap_id (by omega) (by omega)]
  split <;> omega
 rw [e0, L113]
 have hg : 0 < Nat.gcd a b := Nat.gcd_pos_of_pos_right _ h1
 have e3 : lowP a b = (((a / Nat.gcd a b : Nat) : Int), ((b / Nat.gcd a b : Nat) : Int), ()) := by simp [lowP]
 have l1 : a / Nat.gcd a b ≤ a := Nat.div_le_self _ _
 have l2 : b / Nat.gcd a b ≤ b := Nat.div_le_self _ _
 have q1 : Int.tdiv (a : Int) ((Nat.gcd a b : Nat) : Int) = ((a / Nat.gcd a b : Nat) : Int) := by simp
 have q2 : Int.tdiv (b : Int) ((Nat.gcd a b : Nat) : Int) = ((b / Nat.gcd a b : Nat) : Int) := by simp
 rw [e3]
 simp only [Option.bind_some]
 rw [dec_f (show ¬ (((Nat.gcd a b : Nat) : Int) = 0) by omega), q1, q2]
 generalize a / Nat.gcd a b = u at *
 generalize b / Nat.gcd a b = v at *
 rw [wrap_id (by omega) (by omega), wrap_id (by omega) (by omega)]
 exact Ev.all fun _ => by first | rfl | trivial
theorem sumS_X (l : List Sp) : ∀ (n i : Nat) (s : Sp), i + n + 1 ≤ l.length → (1 ≤ i → s = (sumX (lows l) (i - 1), sumX (highs l) (i - 1), ())) → (i = 0 → s = z0) → sumS ((l.drop i).take (n + 1)) s = (sumX (lows l) (i + n), sumX (highs l) (i + n), ())
 | n, i, s, h, h1, h0 => by
  have hi : i < l.length := by omega
  rw [List.drop_eq_getElem_cons hi, List.take_succ_cons, sumS]
  have hg : l[i] = l.getD i z0 := by simp [List.getD_eq_getElem?_getD, hi]
  have hs : (s.1 + (l[i]).1, s.2.1 + (l[i]).2.1, ()) = ((sumX (lows l) i, sumX (highs l) i, ()) : Sp) := by
   rw [hg]
   cases i with
   | zero => rw [h0 rfl]; simp [sumX, lows, highs, z0]
   | succ i => rw [h1 (by omega)]; rfl
  rw [hs]
  cases n with
  | zero => rfl
  | succ n =>
   have := sumS_X l n (i + 1) (sumX (lows l) i, sumX (highs l) i, ()) (by omega) (fun _ => rfl) (fun h => by omega)
   rw [this]
   simp [show i + 1 + n = i + (n + 1) by omega]
theorem sums_X (m : Mo) (t : Sp) (hv : Valid m.1) (ht : Bd1 (sp t.2.1 t.2.1)) : sums m t = (sumX (lows (spn m t)) (m.1.2.1.length - 1), sumX (highs (spn m t)) (m.1.2.1.length - 1), ()) := by
 have hl := hv.l12
 have hl' := hv.l1
 have hbd := spn_bd m t hv ht
 unfold sums
 have := sumS_X (spn m t) (m.1.2.1.length - 1) 0 z0 (by rw [hbd.1]; omega) (fun h => by omega) (fun _ => rfl)
 rw [List.drop_zero, show m.1.2.1.length - 1 + 1 = m.1.2.1.length by omega, Nat.zero_add] at this
 exact this
theorem ent_err (c : Int × List Sp × Unit) : (ent c 0 0).2.1 = (if (chk c).2.2.1 = 0 then (if alive (spn (c, 0, ()) nob) = true then 0 else 8) else (chk c).2.2.1) := by
 unfold ent
 by_cases h : (chk c).2.2.1 = 0
 ·obtain ⟨hv, _⟩ := chk_ok h
  have h1 := hv.l1
  rw [if_neg (by simpa using h), if_pos h, if_neg (by omega), if_neg (by omega)]
  split <;> rfl
 ·rw [if_pos h, if_neg h]
theorem dayAt_c (c : Int × List Sp × Unit) (i : Nat) : dayAt (c, 0, ()) i = c.2.1.getD i z0 := by
 unfold dayAt
 rw [show bitOf ((c, 0, ()) : Mo).2.1 i = false by simp [bitOf], if_neg (by decide)]
end Go.Proofs.YtjigflnjgmgmnaaDoor
/- What Tops, Rises and Ask of the reference come to. Conditions: as each lemma states. -/
namespace Go.Proofs.YtjigflnjgmgmnaaDoor
open Go Go.Gh Go.Proofs
theorem truth_told {c : Int × List Sp × Unit} (d : Nat) (hd : d < c.2.1.length) (v : Int) (x : Nat → Int) : Truth (c, 0, ()) (d, v, ()) x ↔ Truth (c, 0, ()) nob x ∧ x d = v := by
 have ho : ∀ i, own (c, 0, ()) (d, v, ()) i = if i = d then both (own (c, 0, ()) nob i) (sp v v) else own (c, 0, ()) nob i := by
  intro i
  rw [own_c]
  unfold own
  rw [dayAt_c]
  by_cases e : i = d
  ·rw [if_pos e, if_pos (by simp only; omega)]
  ·rw [if_neg e, if_neg (by simp only; omega)]
 constructor
 ·intro h
  have h1 := h.own d hd
  rw [ho, if_pos rfl] at h1
  simp only [both, sp] at h1
  refine ⟨⟨fun i hi => ?_, h.up⟩, by omega⟩
  have h2 := h.own i hi
  rw [ho] at h2
  split at h2
  ·simp only [both] at h2; omega
  ·exact h2
 ·rintro ⟨h, h1⟩
  refine ⟨fun i hi => ?_, h.up⟩
  have h2 := h.own i hi
  rw [ho]
  split
  ·rename_i e
   subst e
   simp only [both, sp]; omega
  ·exact h2
theorem wrap_succ {n : Nat} (h : n < 1000000000000) : IntKind.wrap IntKind.i64 ((n : Int) + 1) = ((n + 1 : Nat) : Int) := by rw [wrap_id (by omega) (by omega)]; omega
theorem allN_iff (f : Int → Bool) : ∀ (e : Nat) (n : Int), allN f e n = true ↔ ∀ v, n ≤ v → v < n + e → f v = true
 | 0, n => ⟨fun _ v h1 h2 => by omega, fun _ => rfl⟩
 | e + 1, n => by
  simp only [allN, Bool.and_eq_true]
  rw [allN_iff f e (n + 1)]
  constructor
  ·rintro ⟨h1, h2⟩ v a b
   by_cases e : v = n
   ·rw [e]; exact h1
   ·exact h2 v (by omega) (by omega)
  ·intro h
   exact ⟨h n (by omega) (by omega), fun v a b => h v (by omega) (by omega)⟩
theorem anyN_iff (f : Int → Bool) : ∀ (e : Nat) (n : Int), anyN f e n = true ↔ ∃ v, n ≤ v ∧ v < n + e ∧ f v = true
 | 0, n => ⟨fun h => (by cases h), fun ⟨v, h1, h2, _⟩ => by omega⟩
 | e + 1, n => by
  simp only [anyN, Bool.or_eq_true]
  rw [anyN_iff f e (n + 1)]
  constructor
  ·rintro (h | ⟨v, a, b, h⟩)
   ·exact ⟨n, by omega, by omega, h⟩
   ·exact ⟨v, by omega, by omega, h⟩
  ·rintro ⟨v, a, b, h⟩
   by_cases e : v = n
   ·rw [e] at h; exact .inl h
   ·exact .inr ⟨v, by omega, by omega, h⟩
end Go.Proofs.YtjigflnjgmgmnaaDoor
/- What Tops, Rises and Ask of the reference come to: those of the program. Conditions: as each lemma states. -/
namespace Go.Proofs.YtjigflnjgmgmnaaDoor
open Go Go.Gh Go.Proofs
theorem getD_lt {α : Type} {l : List α} {i : Nat} {z : α} (h : i < l.length) : l.getD i z = l[i] := by simp [List.getD_eq_getElem?_getD, h]
end Go.Proofs.YtjigflnjgmgmnaaDoor
/- What Ask of the reference comes to: that of the program. Conditions: as each lemma states. -/
namespace Go.Proofs.YtjigflnjgmgmnaaDoor
open Go Go.Gh Go.Proofs
structure MostOf (P : Int → Prop) (ap : Int → Int) (a r : Int) : Prop where
 all : ∀ v, P v → ap v ≤ r
 ge : a ≤ r
 is : r = a ∨ ∃ v, P v ∧ ap v = r
theorem MostOf.one {P : Int → Prop} {ap : Int → Int} {a r q : Int} (h : MostOf P ap a r) (h' : MostOf P ap a q) : r = q := by
 have h1 := h.ge
 have h2 := h'.ge
 rcases h.is with e | ⟨v, hv, e⟩ <;> rcases h'.is with e' | ⟨w, hw, e'⟩
 ·omega
 ·have := h.all w hw; omega
 ·have := h'.all v hv; omega
 ·have := h.all w hw
  have := h'.all v hv
  omega
theorem MostOf.iff {P Q : Int → Prop} {ap : Int → Int} {a r : Int} (h : MostOf P ap a r) (e : ∀ v, P v ↔ Q v) : MostOf Q ap a r :=
 ⟨fun v hv => h.all v ((e v).2 hv), h.ge, h.is.imp id fun ⟨v, hv, e'⟩ => ⟨v, (e v).1 hv, e'⟩⟩
theorem MostOf.cons {P : Int → Prop} {ap : Int → Int} {a r b w : Int} (hb : b = if ap w > a then ap w else a) (h : MostOf P ap b r) : MostOf (fun v => v = w ∨ P v) ap a r := by
 have h1 := h.ge
 refine ⟨fun v hv => ?_, ?_, ?_⟩
 ·rcases hv with rfl | hv
  ·split at hb <;> omega
  ·exact h.all v hv
 ·split at hb <;> omega
 ·rcases h.is with e | ⟨v, hv, e⟩
  ·split at hb
   ·exact .inr ⟨w, .inl rfl, by omega⟩
   ·exact .inl (by omega)
  ·exact .inr ⟨v, .inr hv, e⟩
end Go.Proofs.YtjigflnjgmgmnaaDoor
/- What Wrong of the reference comes to: that of the program. Conditions: as each lemma states. -/
namespace Go.Proofs.YtjigflnjgmgmnaaDoor
open Go Go.Gh Go.Proofs Go.Few
def butD (l : List Int) (ds : List Sp) : List Sp := l.foldl (fun ds x => ds.set x.toNat z0) ds
theorem butD_len : ∀ (l : List Int) (ds : List Sp), (butD l ds).length = ds.length
 | [], _ => rfl
 | x :: l, ds => by
  show (butD l (ds.set x.toNat z0)).length = _
  rw [butD_len l, List.length_set]
theorem butD_at : ∀ (l : List Int) (ds : List Sp) (i : Nat), (∀ x ∈ l, 0 ≤ x ∧ x < ds.length) → (butD l ds).getD i z0 = if (i : Int) ∈ l then z0 else ds.getD i z0
 | [], ds, i, _ => by simp [butD]
 | x :: l, ds, i, h => by
  have hx := h x (List.mem_cons_self ..)
  show (butD l (ds.set x.toNat z0)).getD i z0 = _
  rw [butD_at l _ i fun y hy => by rw [List.length_set]; exact h y (List.mem_cons_of_mem _ hy), getD_set (by omega)]
  by_cases e : (i : Int) ∈ l
  ·rw [if_pos e, if_pos (List.mem_cons_of_mem _ e)]
  ·rw [if_neg e]
   by_cases e2 : x.toNat = i
   ·rw [if_pos e2, if_pos (by rw [show (i : Int) = x by omega]; exact List.mem_cons_self ..)]
   ·rw [if_neg e2, if_neg (fun hm => by
     rcases List.mem_cons.1 hm with h1 | h1
     ·omega
     ·exact e h1)]
def butC (c : Int × List Sp × Unit) (l : List Int) : Int × List Sp × Unit := (c.1, butD l c.2.1, ())
theorem spn_but (c : Int × List Sp × Unit) (l : List Int) (hl : ∀ x ∈ l, 0 ≤ x ∧ x < c.2.1.length) : spn (c, (bitsL l : Int), ()) nob = spn (butC c l, 0, ()) nob := by
 have hd : ∀ i, dayAt (c, (bitsL l : Int), ()) i = dayAt (butC c l, 0, ()) i := by
  intro i
  rw [dayAt_c]
  unfold dayAt bitOf butC
  simp only [Int.toNat_natCast]
  rw [butD_at l _ i hl]
  have := bitsL_bit (l := l) (fun x hx => (hl x hx).1) i
  by_cases e : (i : Int) ∈ l
  ·rw [if_pos e, if_pos (this.2 e)]
  ·rw [if_neg e, if_neg (fun h => e (this.1 h))]
 unfold spn init own
 simp only [hd, butC, butD_len]
theorem cmpP_eq : ∀ (l p : List Int), cmpP l p = cmpL l p
 | [], [] => rfl
 | [], _ :: _ => rfl
 | _ :: _, [] => rfl
 | a :: l, b :: p => by
  simp only [cmpP, cmpL]
  rw [cmpP_eq l p]
  rfl
theorem worse_eq (l p : List Int) : Go.Proofs.YtjigflnjgmgmnaaDoor.worse l p = Few.worse l p := by
 unfold Go.Proofs.YtjigflnjgmgmnaaDoor.worse Few.worse
 rw [cmpP_eq]
theorem selN_eq (hs : List Int) (set : Nat) : ∀ j, selN hs set j = (selB hs set j, bitsL (selB hs set j))
 | 0 => rfl
 | j + 1 => by
  simp only [selN, selB, selN_eq hs set j]
  split
  ·rw [bitsL_concat]
  ·rfl
theorem wrongN_scan (c : Int × List Sp × Unit) (hs : List Int) : ∀ (e set : Nat) (best : List Int) (found : Bool), wrongN c hs e set best found = scan (fun l => alive (spn (c, (bitsL l : Int), ()) nob)) ((List.range' set e).map fun s => selB hs s hs.length) best found
 | 0, _, _, _ => rfl
 | e + 1, set, best, found => by
  rw [wrongN, List.range'_succ, List.map_cons, scan, selN_eq, worse_eq, wrongN_scan c hs e, wrongN_scan c hs e]
theorem chkFrom_hopes : ∀ (l : List Sp) (i h : Int), (chkFrom l i h).2.2.1 = 0 → h ≤ 5 → h + (l.countP fun d => d.1 == 3 : Nat) ≤ 5
 | [], _, h, _, h5 => by simpa using h5
 | d :: ds, i, h, hc, h5 => by
  unfold chkFrom at hc
  by_cases h1 : d.1 < 0 ∨ d.1 > 3 ∨ d.2.1 < 0 ∨ d.2.1 > 100
  ·rw [if_pos h1] at hc; simp at hc
  ·rw [if_neg h1] at hc
   by_cases h2 : d.1 = 0 ∧ d.2.1 ≠ 0
   ·rw [if_pos h2] at hc; simp at hc
   ·rw [if_neg h2] at hc
    by_cases h3 : (if d.1 = 3 then h + 1 else h) > 5
    ·rw [if_pos h3] at hc; simp at hc
    ·rw [if_neg h3] at hc
     have := chkFrom_hopes ds _ _ hc (by omega)
     rw [List.countP_cons]
     by_cases e : d.1 = 3
     ·rw [if_pos e] at this
      rw [if_pos (by simpa using e)]
      omega
     ·rw [if_neg e] at this
      rw [if_neg (by simpa using e)]
      omega
theorem numsL_count (q : Sp → Bool) (l : List Sp) : (numsL (fun d => q (l.getD d z0)) l.length).length = l.countP q := by
 unfold numsL
 rw [List.length_map, ← List.countP_eq_length_filter]
 have e : l = (List.range l.length).map fun d => l.getD d z0 := by
  apply List.ext_getElem (by simp)
  intro i h1 h2
  simp [List.getD_eq_getElem?_getD, h1]
 conv => rhs; rw [e]
 rw [List.countP_map]
 rfl
theorem hopes_le {c : Int × List Sp × Unit} (h : (chk c).2.2.1 = 0) : (numsL (isHope c) c.2.1.length).length ≤ 5 := by
 have e : (numsL (isHope c) c.2.1.length).length = c.2.1.countP fun d => d.1 == 3 := numsL_count (fun d => d.1 == 3) c.2.1
 rw [e]
 have hv := (chk_ok h).1
 have h1 := hv.s0
 have h2 := hv.s20
 have h3 := hv.l1
 have h4 := hv.l12
 unfold chk at h
 rw [if_neg (by omega), if_neg (by omega)] at h
 have := chkFrom_hopes _ _ _ h (by omega)
 omega
end Go.Proofs.YtjigflnjgmgmnaaDoor
