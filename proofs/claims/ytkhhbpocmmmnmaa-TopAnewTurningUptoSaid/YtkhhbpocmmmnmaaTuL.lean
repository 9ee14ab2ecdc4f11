/- All truths of a sun, and how a function goes through them. Conditions: as each lemma states (plain Lean, no program in sight). -/
import Derived.Test.YtkhhbpocmmmnmaaTuX
import Derived.Test.YtkhhbpocmmmnmaaGhI
import Derived.Test.YtkhhbpocmmmnmaaTuA
namespace Go.Proofs.Ytkhhbpocmmmnmaa
open Go Go.Gh Go.Proofs
structure VS (s : Su) : Prop where
 b1 : 1 ≤ s.1.length
 b3 : s.1.length ≤ 3
 belts : ∀ i, i < s.1.length → 0 ≤ (s.1.getD i sp0).1 ∧ (s.1.getD i sp0).1 ≤ (s.1.getD i sp0).2.1 ∧ (s.1.getD i sp0).2.1 ≤ 16 ∧ (s.1.getD i sp0).2.1 - (s.1.getD i sp0).1 ≤ 3
 off : 0 ≤ s.2.1 ∧ s.2.1 ≤ 9
 n5 : s.2.2.1.length ≤ 5
 seen : ∀ i, i < s.2.2.1.length → (0 ≤ (s.2.2.1.getD i sn0).1 ∧ (s.2.2.1.getD i sn0).1 ≤ 30) ∧ (0 ≤ (s.2.2.1.getD i sn0).2.1 ∧ (s.2.2.1.getD i sn0).2.1 < s.1.length) ∧ -90 ≤ (s.2.2.1.getD i sn0).2.2.1 ∧ (s.2.2.1.getD i sn0).2.2.1 ≤ 90
 t3 : s.2.2.2.1.length ≤ 3
 told : ∀ i, i < s.2.2.2.1.length → (0 ≤ (s.2.2.2.1.getD i tl0).1 ∧ (s.2.2.2.1.getD i tl0).1 < s.2.2.1.length) ∧ (0 ≤ (s.2.2.2.1.getD i tl0).2.1 ∧ (s.2.2.2.1.getD i tl0).2.1 < s.2.2.1.length) ∧ (s.2.2.2.1.getD i tl0).1 ≠ (s.2.2.2.1.getD i tl0).2.1
def foldT {C X : Type} (step : C → X → C × Bool) : List X → C → C × Bool
 | [], c => (c, true)
 | x :: r, c => match step c x with
  | (c', true) => foldT step r c'
  | (c', false) => (c', false)
theorem foldT_append {C X : Type} (step : C → X → C × Bool) : ∀ (a b : List X) (c : C), foldT step (a ++ b) c = match foldT step a c with
  | (c', true) => foldT step b c'
  | (c', false) => (c', false)
 | [], b, c => rfl
 | x :: a, b, c => by
  simp only [List.cons_append, foldT]
  cases h : step c x with
  | mk c' ok =>
   cases ok with
   | true => exact foldT_append step a b c'
   | false => rfl
theorem foldT_one {C X : Type} (step : C → X → C × Bool) (x : X) (c : C) : foldT step [x] c = step c x := by
 simp only [foldT]
 cases step c x with
 | mk c' ok => cases ok <;> rfl
theorem foldT_flat {C X Y : Type} (step : C → X → C × Bool) (f : Y → List X) : ∀ (l : List Y) (c : C), foldT step (l.flatMap f) c = foldT (fun c y => foldT step (f y) c) l c
 | [], c => rfl
 | y :: l, c => by
  rw [List.flatMap_cons, foldT_append]
  simp only [foldT]
  cases foldT step (f y) c with
  | mk c' ok =>
   cases ok with
   | true => exact foldT_flat step f l c'
   | false => rfl
theorem foldT_map {C X Y : Type} (step : C → X → C × Bool) (f : Y → X) : ∀ (l : List Y) (c : C), foldT step (l.map f) c = foldT (fun c y => step c (f y)) l c
 | [], c => rfl
 | y :: l, c => by
  simp only [List.map_cons, foldT]
  cases step c (f y) with
  | mk c' ok =>
   cases ok with
   | true => exact foldT_map step f l c'
   | false => rfl
theorem foldT_filter {C X : Type} (step : C → X → C × Bool) (p : X → Bool) : ∀ (l : List X) (c : C), foldT step (l.filter p) c = foldT (fun c x => if p x = true then step c x else (c, true)) l c
 | [], c => rfl
 | x :: l, c => by
  simp only [List.filter_cons, foldT]
  cases hp : p x with
  | true =>
   simp only [if_true, foldT]
   cases step c x with
   | mk c' ok =>
    cases ok with
    | true => exact foldT_filter step p l c'
    | false => rfl
  | false => simp only [Bool.false_eq_true, if_false]; exact foldT_filter step p l c
structure Good (n : Nat) (m : Int) (t : List Int) : Prop where
 len : t.length = n
 bd : ∀ x ∈ t, 0 ≤ x ∧ x ≤ m
theorem Good.at {n : Nat} {m : Int} (hm : 0 ≤ m) {t : List Int} (h : Good n m t) (i : Nat) : 0 ≤ t.getD i 0 ∧ t.getD i 0 ≤ m := by
 rw [List.getD_eq_getElem?_getD]
 cases hq : t[i]? with
 | none => simpa using hm
 | some x => exact h.bd x (List.mem_of_getElem? hq)
theorem Good.set {n : Nat} {m : Int} {t : List Int} (h : Good n m t) {i : Nat} {v : Int} (h0 : 0 ≤ v) (h1 : v ≤ m) : Good n m (t.set i v) :=
 ⟨by simp [h.len], fun x hx => by
   rcases List.mem_or_eq_of_mem_set hx with hx | rfl
   ·exact h.bd x hx
   ·exact ⟨h0, h1⟩⟩
def pad (n : Nat) (p : List Int) : List Int := p ++ List.replicate (n - p.length) 0
theorem pad_eq {n i : Nat} {p t : List Int} (hp : p.length = i) (ht : t.take i = p) (hz : t.drop i = List.replicate (n - i) 0) : pad n p = t := by
 unfold pad
 rw [hp, ← hz, ← ht, List.take_append_drop]
theorem take_set1 {n i : Nat} {m v : Int} {t p : List Int} (ht : Good n m t) (hi : i < n) (h : t.take i = p) : (t.set i v).take (i + 1) = p ++ [v] := by
 have hil : i < t.length := by rw [ht.len]; omega
 rw [List.take_add_one, List.take_set_of_le (Nat.le_refl i), h]
 simp [hil]
theorem take_less {t p : List Int} {v : Int} {i : Nat} (hp : p.length = i) (h : t.take (i + 1) = p ++ [v]) : t.take i = p := by
 have : (t.take (i + 1)).take i = p := by rw [h, List.take_append_of_le_length (by omega), List.take_of_length_le (by omega)]
 rw [List.take_take, Nat.min_eq_left (by omega)] at this
 exact this
def gExt (ok : List Int → Nat → Nat → Bool) : Nat → List Int → List (List Int)
 | 0, p => [pad 5 p]
 | c + 1, p => (List.range (p.length + 1)).flatMap fun k => if ok p p.length k = true then gExt ok c (p ++ [(k : Int)]) else []
structure DfsG (Q R : Type) (n : Nat) (ok : List Int → Nat → Nat → Bool) (step : Q → List Int → Q × Bool) where
 A0 : Nat → Q → List Int → R → Prop
 A1 : Nat → Nat → Q → List Int → R → Prop
 P : Bool → Q → List Int → R
 leaf : ∀ {C g}, Good 5 4 g → A0 n C g (P (step C g).2 (step C g).1 g)
 node : ∀ {i C g y}, i < n → A1 i 0 C g y → A0 i C g y
 done : ∀ {i C g}, i < n → A1 i (i + 1) C g (P true C g)
 skip : ∀ {i k C g y}, i < n → k ≤ i → Good 5 4 g → ok g i k = false → A1 i (k + 1) C g y → A1 i k C g y
 call : ∀ {i k C g y b C' g'}, i < n → k ≤ i → Good 5 4 g → ok g i k = true → A0 (i + 1) C (g.set i (k : Int)) (P b C' g') → (b = true → A1 i (k + 1) C' g' y) → (b = false → y = P false C' g') → A1 i k C g y
theorem DfsG.run {Q R : Type} {n : Nat} {ok : List Int → Nat → Nat → Bool} {step : Q → List Int → Q × Bool} (D : DfsG Q R n ok step) (h5 : n ≤ 5) (hok : ∀ g i k, i ≤ g.length → k ≤ i → ok g i k = ok (g.take i) i k) :
  ∀ (c i : Nat) (p : List Int) (C : Q) (g : List Int), i + c = n → p.length = i → Good 5 4 g → g.take i = p → g.drop n = List.replicate (5 - n) 0 →
  ∃ g', Good 5 4 g' ∧ g'.take i = p ∧ g'.drop n = List.replicate (5 - n) 0 ∧ D.A0 i C g (D.P (foldT step (gExt ok c p) C).2 (foldT step (gExt ok c p) C).1 g') := by
 intro c
 induction c with
 | zero =>
  intro i p C g hi hp hg htp hz
  obtain rfl : i = n := by omega
  refine ⟨g, hg, htp, hz, ?_⟩
  have e : foldT step (gExt ok 0 p) C = step C g := by
   simp only [gExt, pad_eq hp htp hz, foldT_one]
  rw [e]
  exact D.leaf hg
 | succ c ih =>
  intro i p C g hi hp hg htp hz
  have hlt : i < n := by omega
  have vals : ∀ (d k : Nat) (C : Q) (g : List Int), k + d = i + 1 → Good 5 4 g → g.take i = p → g.drop n = List.replicate (5 - n) 0 →
    ∃ g', Good 5 4 g' ∧ g'.take i = p ∧ g'.drop n = List.replicate (5 - n) 0 ∧
     D.A1 i k C g (D.P (foldT step ((List.range' k d).flatMap fun k => if ok p p.length k = true then gExt ok c (p ++ [(k : Int)]) else []) C).2
      (foldT step ((List.range' k d).flatMap fun k => if ok p p.length k = true then gExt ok c (p ++ [(k : Int)]) else []) C).1 g') := by
   intro d
   induction d with
   | zero =>
    intro k C g hk hg htp hz
    obtain rfl : k = i + 1 := by omega
    exact ⟨g, hg, htp, hz, D.done hlt⟩
   | succ d ihd =>
    intro k C g hk hg htp hz
    rw [List.range'_succ, List.flatMap_cons]
    have hk' : k ≤ i := by omega
    have ho : ok g i k = ok p p.length k := by rw [hok g i k (by rw [hg.len]; omega) hk', htp, hp]
    cases hb : ok p p.length k with
    | false =>
     simp only [Bool.false_eq_true, if_false, List.nil_append]
     obtain ⟨g', a1, a2, a3, a4⟩ := ihd (k + 1) C g (by omega) hg htp hz
     exact ⟨g', a1, a2, a3, D.skip hlt hk' hg (ho.trans hb) a4⟩
    | true =>
     simp only [if_true]
     have hg1 : Good 5 4 (g.set i (k : Int)) := hg.set (by omega) (by omega)
     have htp1 := take_set1 (v := (k : Int)) hg (by omega) htp
     have hz1 : (g.set i (k : Int)).drop n = List.replicate (5 - n) 0 := by rw [List.drop_set_of_lt hlt, hz]
     obtain ⟨g2, f1, f2, f3, f5⟩ := ih (i + 1) (p ++ [(k : Int)]) C (g.set i (k : Int)) (by omega) (by simp [hp]) hg1 htp1 hz1
     have f2' := take_less hp f2
     rw [foldT_append]
     generalize hr : foldT step (gExt ok c (p ++ [(k : Int)])) C = r at f5
     obtain ⟨C2, b⟩ := r
     cases b with
     | false => exact ⟨g2, f1, f2', f3, D.call hlt hk' hg (ho.trans hb) f5 (fun h => by cases h) (fun _ => rfl)⟩
     | true =>
      obtain ⟨g3, a1, a2, a3, a4⟩ := ihd (k + 1) C2 g2 (by omega) f1 f2' f3
      exact ⟨g3, a1, a2, a3, D.call hlt hk' hg (ho.trans hb) f5 (fun _ => a4) (fun h => by cases h)⟩
  obtain ⟨g', a1, a2, a3, a4⟩ := vals (i + 1) 0 C g (by omega) hg htp hz
  refine ⟨g', a1, a2, a3, D.node hlt ?_⟩
  have e : gExt ok (c + 1) p = (List.range' 0 (i + 1)).flatMap fun k => if ok p p.length k = true then gExt ok c (p ++ [(k : Int)]) else [] := by
   rw [gExt, List.range_eq_range', hp]
  rw [e]
  exact a4
def rExt (s : Su) : Nat → Int → List Int → List (List Int)
 | 0, _, p => [pad 3 p]
 | c + 1, m, p => (Few.upto (s.1.getD p.length sp0).1 (min m (s.1.getD p.length sp0).2.1 + 1)).flatMap fun v => rExt s c v (p ++ [v])
def ratesP (s : Su) : List (List Int) := rExt s s.1.length 16 []
structure DfsR (Q R : Type) (s : Su) (step : Q → List Int → Q × Bool) where
 A0 : Nat → Int → Q → List Int → List Int → R → Prop
 A1 : Nat → Int → Int → Q → List Int → List Int → R → Prop
 P : Bool → Q → List Int → List Int → R
 leaf : ∀ {m C r l}, r ≠ l → Good 3 16 r → A0 s.1.length m C r l (P (step C r).2 (step C r).1 r r)
 node : ∀ {i m C r l y}, i < s.1.length → A1 i m (s.1.getD i sp0).1 C r l y → A0 i m C r l y
 done : ∀ {i m v C r l}, i < s.1.length → min m (s.1.getD i sp0).2.1 < v → A1 i m v C r l (P true C r l)
 call : ∀ {i m v C r l y b C' r' l'}, i < s.1.length → 0 ≤ v → v ≤ min m (s.1.getD i sp0).2.1 → v ≤ 16 → Good 3 16 r → A0 (i + 1) v C (r.set i v) l (P b C' r' l') → (b = true → A1 i m (v + 1) C' r' l' y) → (b = false → y = P false C' r' l') → A1 i m v C r l y
theorem DfsR.run {Q R : Type} {s : Su} {step : Q → List Int → Q × Bool} (D : DfsR Q R s step) (hs : VS s) :
  ∀ (c i : Nat) (m : Int) (p : List Int) (C : Q) (r l : List Int), i + c = s.1.length → p.length = i → Good 3 16 r → r.take i = p → r.drop s.1.length = List.replicate (3 - s.1.length) 0 →
  (i = s.1.length → ¬ p <+: l) → (i < s.1.length → ∀ w, 0 ≤ w → ¬ (p ++ [w]) <+: l) →
  ∃ r' l', Good 3 16 r' ∧ r'.take i = p ∧ r'.drop s.1.length = List.replicate (3 - s.1.length) 0 ∧ (l' = l ∨ p <+: l') ∧
   D.A0 i m C r l (D.P (foldT step (rExt s c m p) C).2 (foldT step (rExt s c m p) C).1 r' l') := by
 intro c
 have h3 := hs.b3
 induction c with
 | zero =>
  intro i m p C r l hi hp hr htp hz hl _
  obtain rfl : i = s.1.length := by omega
  have hne : r ≠ l := fun e => hl rfl (by rw [← e, ← htp]; exact List.take_prefix _ _)
  refine ⟨r, r, hr, htp, hz, .inr (by rw [← htp]; exact List.take_prefix _ _), ?_⟩
  have e : foldT step (rExt s 0 m p) C = step C r := by
   simp only [rExt, pad_eq hp htp hz, foldT_one]
  rw [e]
  exact D.leaf hne hr
 | succ c ih =>
  intro i m p C r l hi hp hr htp hz _ hl
  have hlt : i < s.1.length := by omega
  have hb := hs.belts i hlt
  have vals : ∀ (d : Nat) (v : Int) (C : Q) (r l : List Int), v + d = max (s.1.getD i sp0).1 (min m (s.1.getD i sp0).2.1 + 1) → (s.1.getD i sp0).1 ≤ v → Good 3 16 r → r.take i = p → r.drop s.1.length = List.replicate (3 - s.1.length) 0 → (∀ w, v ≤ w → ¬ (p ++ [w]) <+: l) →
    ∃ r' l', Good 3 16 r' ∧ r'.take i = p ∧ r'.drop s.1.length = List.replicate (3 - s.1.length) 0 ∧ (l' = l ∨ p <+: l') ∧
     D.A1 i m v C r l (D.P (foldT step ((Few.upto v (min m (s.1.getD i sp0).2.1 + 1)).flatMap fun v => rExt s c v (p ++ [v])) C).2
      (foldT step ((Few.upto v (min m (s.1.getD i sp0).2.1 + 1)).flatMap fun v => rExt s c v (p ++ [v])) C).1 r' l') := by
   intro d
   induction d with
   | zero =>
    intro v C r l hv _ hr htp hz _
    rw [Few.upto_nil (by omega)]
    exact ⟨r, l, hr, htp, hz, .inl rfl, D.done hlt (by omega)⟩
   | succ d ihd =>
    intro v C r l hv hlo hr htp hz hD
    have hv1 : v ≤ min m (s.1.getD i sp0).2.1 := by omega
    have hv0 : 0 ≤ v ∧ v ≤ 16 := by omega
    rw [Few.upto_cons (show v < min m (s.1.getD i sp0).2.1 + 1 by omega), List.flatMap_cons]
    have hr1 : Good 3 16 (r.set i v) := hr.set hv0.1 hv0.2
    have htp1 := take_set1 (v := v) hr (by omega) htp
    have hz1 : (r.set i v).drop s.1.length = List.replicate (3 - s.1.length) 0 := by rw [List.drop_set_of_lt hlt, hz]
    have hnp : ¬ (p ++ [v]) <+: l := hD v (Int.le_refl v)
    obtain ⟨r2, l2, f1, f2, f3, f4, f5⟩ := ih (i + 1) v (p ++ [v]) C (r.set i v) l (by omega) (by simp [hp]) hr1 htp1 hz1 (fun _ => hnp) (fun _ w _ h => hnp ((List.prefix_append _ _).trans h))
    have f2' := take_less hp f2
    have hD2 : ∀ w, v + 1 ≤ w → ¬ (p ++ [w]) <+: l2 := by
     intro w hw h
     rcases f4 with rfl | f4
     ·exact hD w (by omega) h
     ·have e1 := List.prefix_iff_eq_take.1 h
      have e2 := List.prefix_iff_eq_take.1 f4
      have e3 : (p ++ [w]).length = (p ++ [v]).length := by simp
      rw [e3, ← e2] at e1
      have := List.append_cancel_left e1
      simp only [List.cons.injEq, and_true] at this
      omega
    rw [foldT_append]
    generalize hq : foldT step (rExt s c v (p ++ [v])) C = q at f5
    obtain ⟨C2, b⟩ := q
    cases b with
    | false => exact ⟨r2, l2, f1, f2', f3, f4.imp id (fun h => (List.prefix_append _ _).trans h), D.call hlt hv0.1 hv1 hv0.2 hr f5 (fun h => by cases h) (fun _ => rfl)⟩
    | true =>
     obtain ⟨r3, l3, g1, g2, g3, g4, g5⟩ := ihd (v + 1) C2 r2 l2 (by omega) (by omega) f1 f2' f3 hD2
     refine ⟨r3, l3, g1, g2, g3, ?_, D.call hlt hv0.1 hv1 hv0.2 hr f5 (fun _ => g5) (fun h => by cases h)⟩
     rcases g4 with rfl | g4
     ·exact f4.imp id (fun h => (List.prefix_append _ _).trans h)
     ·exact .inr g4
  by_cases hle : (s.1.getD i sp0).1 ≤ min m (s.1.getD i sp0).2.1 + 1
  ·obtain ⟨d, hd⟩ := Int.eq_ofNat_of_zero_le (show 0 ≤ min m (s.1.getD i sp0).2.1 + 1 - (s.1.getD i sp0).1 by omega)
   obtain ⟨r', l', a1, a2, a3, a4, a5⟩ := vals d (s.1.getD i sp0).1 C r l (by omega) (Int.le_refl _) hr htp hz (fun w hw => hl hlt w (by omega))
   refine ⟨r', l', a1, a2, a3, a4, D.node hlt ?_⟩
   rw [rExt, hp]
   exact a5
  ·obtain ⟨r', l', a1, a2, a3, a4, a5⟩ := vals 0 (s.1.getD i sp0).1 C r l (by omega) (Int.le_refl _) hr htp hz (fun w hw => hl hlt w (by omega))
   refine ⟨r', l', a1, a2, a3, a4, D.node hlt ?_⟩
   rw [rExt, hp]
   exact a5
theorem DfsR.all {Q R : Type} {s : Su} {step : Q → List Int → Q × Bool} (D : DfsR Q R s step) (hs : VS s) (C : Q) :
  ∃ r' l', Good 3 16 r' ∧ D.A0 0 16 C (List.replicate 3 0) (-1 :: List.replicate 2 0) (D.P (foldT step (ratesP s) C).2 (foldT step (ratesP s) C).1 r' l') := by
 have h1 := hs.b1
 have h3 := hs.b3
 obtain ⟨r', l', g1, _, _, _, g5⟩ := D.run hs s.1.length 0 16 [] C (List.replicate 3 0) (-1 :: List.replicate 2 0) (by omega) rfl ⟨by simp, fun x hx => by rw [List.mem_replicate] at hx; omega⟩ rfl (by rw [List.drop_replicate]) (fun h => by omega) (fun _ w hw h => by
  rw [List.nil_append, List.cons_prefix_cons] at h
  omega)
 exact ⟨r', l', g1, g5⟩
def soP (s : Su) (but : Nat → Bool) (g : List Int) : Bool := (List.range s.2.2.2.1.length).all fun i => but i || ((g.getD (s.2.2.2.1.getD i tl0).1.toNat 0 == g.getD (s.2.2.2.1.getD i tl0).2.1.toNat 0) == (s.2.2.2.1.getD i tl0).2.2.1)
def joinsP (s : Su) (r g : List Int) (i k : Nat) : Bool := (List.range i).all fun a => g.getD a 0 != (k : Int) || canP s r i a
def okP (s : Su) (r g : List Int) (i k : Nat) : Bool := k == i || (g.getD k 0 == (k : Int) && joinsP s r g i k)
def partsP (s : Su) (r : List Int) : List (List Int) := gExt (okP s r) s.2.2.1.length []
def truthsP (s : Su) (but : Nat → Bool) : List (List Int × List Int) := (ratesP s).flatMap fun r => ((partsP s r).filter (soP s but)).map fun g => (r, g)
end Go.Proofs.Ytkhhbpocmmmnmaa
/- The lists of the reference (rates, ways to part) are those of the program. Conditions: as each lemma states (plain Lean, no program in sight). -/
namespace Go.Proofs.Ytkhhbpocmmmnmaa
open Go Go.Gh Go.Proofs
theorem all_same {n : Nat} {f g : Nat → Bool} (h : ∀ i, i < n → f i = g i) : (List.range n).all f = (List.range n).all g := by
 rw [Bool.eq_iff_iff, List.all_eq_true, List.all_eq_true]
 constructor
 ·intro H x hx; have := H x hx; rwa [h x (List.mem_range.1 hx)] at this
 ·intro H x hx; have := H x hx; rwa [← h x (List.mem_range.1 hx)] at this
def rLev (s : Su) : Nat → List (List Int)
 | 0 => [[]]
 | i + 1 => (rLev s i).flatMap fun p => ((Few.upto (s.1.getD i sp0).1 ((s.1.getD i sp0).2.1 + 1)).filter fun v => i == 0 || decide (v ≤ p.getD (i - 1) 0)).map fun v => p ++ [v]
def gLev : Nat → List (List Int)
 | 0 => [[]]
 | i + 1 => (gLev i).flatMap fun p => ((List.range (i + 1)).filter fun k : Nat => k == i || p.getD k 0 == (k : Int)).map fun k : Nat => p ++ [(k : Int)]
end Go.Proofs.Ytkhhbpocmmmnmaa
/- All truths of the reference are those of the program. Conditions: as each lemma states (plain Lean, no program in sight). -/
namespace Go.Proofs.Ytkhhbpocmmmnmaa
open Go Go.Gh Go.Proofs
end Go.Proofs.Ytkhhbpocmmmnmaa
/- The program's small functions. Conditions: as each lemma states. -/
namespace Go.Proofs.Ytkhhbpocmmmnmaa
open Go Go.Gh Go.Proofs
theorem bq {a b : Int} (h : a = b) : (a == b) = true := by simp [h]
theorem bqf {a b : Int} (h : a ≠ b) : (a == b) = false := by simpa using h
theorem nbq {a b : Int} (h : a = b) : (a != b) = false := by simp [h]
theorem nbqf {a b : Int} (h : a ≠ b) : (a != b) = true := by simpa using h
theorem L78 (lo hi : Int) (l : List Int) (hl : l.length < 1000000000000) : F78 ((lo, hi, l, ()) : Int × Int × List Int × Unit) = some (l.any (fun n => decide (n < lo) || decide (n > hi)), ()) := by
 refine N78 _ _ _ ?_
 have key : ∀ (c i : Nat), i + c = l.length → Ev fun k => T78_0 lo hi l l.length i k = some ((l.drop i).any (fun n => decide (n < lo) || decide (n > hi)), ()) := by
  intro c
  induction c with
  | zero =>
   intro i hi'
   refine R78_0 _ _ _ _ _ ?_
   rw [dec_f (by omega), List.drop_eq_nil_of_le (by omega)]
   exact Ev.all fun _ => by first | rfl | trivial
  | succ c ih =>
   intro i hi'
   have hlt : i < l.length := by omega
   refine R78_0 _ _ _ _ _ ?_
   rw [dec_t (show (i : Int) < (l.length : Int) by omega), dec_t (show (0 : Int) ≤ (i : Int) by omega), wrap_succ (n := i) (by omega), Int.toNat_natCast, getD_lt hlt, List.drop_eq_getElem_cons hlt, List.any_cons]
   simp only [Bool.and_self, cond_true]
   by_cases h1 : l[i] < lo
   ·simp only [dec_t h1, cond_true]
    exact Ev.all fun _ => by simp
   ·simp only [dec_f h1, cond_false]
    by_cases h2 : l[i] > hi
    ·simp only [dec_t h2, cond_true]
     exact Ev.all fun _ => by simp
    ·simp only [dec_f h2, cond_false, Bool.or_self, Bool.false_or]
     exact ih (i + 1) (by omega)
 have := key l.length 0 (by omega)
 rw [List.drop_zero] at this
 exact this
theorem L78_1 (lo hi n : Int) : F78 ((lo, hi, List.set (List.replicate 1 0) 0 n, ()) : Int × Int × List Int × Unit) = some (decide (n < lo) || decide (n > hi), ()) := by
 rw [show List.set (List.replicate 1 (0 : Int)) 0 n = [n] from rfl, L78 _ _ _ (by simp), any1]
theorem L78_2 (lo hi n m : Int) : F78 ((lo, hi, List.set (List.set (List.replicate 2 0) 0 n) 1 m, ()) : Int × Int × List Int × Unit) = some (decide (n < lo) || decide (n > hi) || (decide (m < lo) || decide (m > hi)), ()) := by
 rw [show List.set (List.set (List.replicate 2 (0 : Int)) 0 n) 1 m = [n, m] from rfl, L78 _ _ _ (by simp)]
 simp
theorem L127 (n : Int) : F127 ((n, ()) : Int × Unit) = some (n % 360, ()) := by
 refine N127 _ ?_
 have e : Int.tmod (IntKind.wrap IntKind.i64 (Int.tmod n 360 + 360)) 360 = n % 360 := by
  have b1 := Int.lt_tmod_of_pos n (show (0 : Int) < 360 by omega)
  have b2 := Int.tmod_lt_of_pos n (show (0 : Int) < 360 by omega)
  rw [wrap_id (by omega) (by omega), Int.tmod_eq_emod_of_nonneg (by omega)]
  have := Int.mul_tdiv_add_tmod n 360
  omega
 rw [e]
 exact Ev.all fun _ => rfl
theorem L104 (n m : Int) (h1 : -100000 ≤ n) (h2 : n ≤ 100000) (m0 : 0 ≤ m) (m1 : m ≤ 100000) : F104 ((n, m, ()) : Int × Int × Unit) = some (farP n m, ()) := by
 refine N104 _ _ ?_
 rw [wrap_id (x := n + m) (by omega) (by omega), L127 _]
 simp only [Option.bind_some]
 rw [wrap_id (x := 2 * m) (by omega) (by omega), L78_1]
 have e : (decide ((n + m) % 360 < 0) || decide ((n + m) % 360 > 2 * m)) = farP n m := by
  unfold farP
  rw [dec_f (show ¬ (n + m) % 360 < 0 by omega), Bool.false_or]
 rw [e]
 exact Ev.all fun _ => rfl
abbrev Sb := Su × Int × Unit
abbrev hn (s : Su) (but : Int) : Option Sb := some (s, but, ())
theorem place_bd {s : Su} (hs : VS s) {r : List Int} (hr : Good 3 16 r) {i : Nat} (hi : i < s.2.2.1.length) {day : Int} (d0 : 0 ≤ day) (d1 : day ≤ 30) :
  (-480 ≤ r.getD (s.2.2.1.getD i sn0).2.1.toNat 0 * (day - (s.2.2.1.getD i sn0).1) ∧ r.getD (s.2.2.1.getD i sn0).2.1.toNat 0 * (day - (s.2.2.1.getD i sn0).1) ≤ 480) ∧ -570 ≤ placeP (s.2.2.1.getD i sn0) r day ∧ placeP (s.2.2.1.getD i sn0) r day ≤ 570 := by
 have hx := hs.seen i hi
 have hq := hr.at (by omega) (s.2.2.1.getD i sn0).2.1.toNat
 unfold placeP
 generalize s.2.2.1.getD i sn0 = x at *
 generalize r.getD x.2.1.toNat 0 = q at *
 have a1 : q * (day - x.1) ≤ 480 := by
  by_cases h : 0 ≤ day - x.1
  ·have := Int.mul_le_mul hq.2 (show day - x.1 ≤ 30 by omega) h (by omega)
   omega
  ·have := Int.mul_nonneg hq.1 (show 0 ≤ x.1 - day by omega)
   have e : q * (day - x.1) = -(q * (x.1 - day)) := by rw [← Int.mul_neg]; congr 1; omega
   omega
 have a2 : -480 ≤ q * (day - x.1) := by
  by_cases h : 0 ≤ day - x.1
  ·have := Int.mul_nonneg hq.1 h
   omega
  ·have := Int.mul_le_mul hq.2 (show x.1 - day ≤ 30 by omega) (by omega) (by omega)
   have e : q * (day - x.1) = -(q * (x.1 - day)) := by rw [← Int.mul_neg]; congr 1; omega
   omega
 omega
theorem L101 {s : Su} (hs : VS s) (but : Int) {r : List Int} (hr : Good 3 16 r) (i : Nat) (hi : i < s.2.2.1.length) {day : Int} (d0 : 0 ≤ day) (d1 : day ≤ 30) :
  F101 ((hn s but, (i : Int), r, day, ()) : Option Sb × Int × List Int × Int × Unit) = some (placeP (s.2.2.1.getD i sn0) r day, ()) := by
 refine N101 _ _ _ _ ?_
 simp only [Option.bind_some]
 have hx := hs.seen i hi
 have h3 := hs.b3
 have hb := place_bd hs hr hi d0 d1
 have e : s.2.2.1.getD i (0, 0, 0, ()) = s.2.2.1.getD i sn0 := rfl
 rw [dec_t (show (0 : Int) ≤ (i : Int) by omega), dec_t (show (i : Int) < (s.2.2.1.length : Int) by omega), Int.toNat_natCast, e]
 unfold placeP at hb ⊢
 generalize s.2.2.1.getD i sn0 = x at *
 rw [dec_t (show 0 ≤ x.2.1 by omega), dec_t (show x.2.1 < 3 by omega), dec_t (show x.2.1.toNat < 3 by omega), wrap_id (x := day - x.1) (by omega) (by omega), wrap_id (x := r.getD x.2.1.toNat 0 * (day - x.1)) (by omega) (by omega), wrap_id (by omega) (by omega)]
 exact Ev.all fun _ => rfl
theorem bitsP_lt (p : Nat → Bool) : ∀ n, bitsP p n < 2 ^ n
 | 0 => by simp [bitsP]
 | n + 1 => by
  have := bitsP_lt p n
  simp only [bitsP, Nat.pow_succ]
  split <;> omega
theorem bitsP_bit (p : Nat → Bool) (i : Nat) : ∀ n, (bitsP p n).testBit i = (decide (i < n) && p i)
 | 0 => by simp [bitsP]
 | n + 1 => by
  have hlt := bitsP_lt p n
  simp only [bitsP]
  by_cases hp : p n = true
  ·rw [if_pos hp, Nat.add_comm]
   rcases Nat.lt_trichotomy i n with h | rfl | h
   ·rw [Nat.testBit_two_pow_add_gt h, bitsP_bit p i n, dec_t h, dec_t (show i < n + 1 by omega)]
   ·rw [Nat.testBit_two_pow_add_eq, Nat.testBit_lt_two_pow hlt, dec_t (show i < i + 1 by omega), hp]; rfl
   ·rw [dec_f (show ¬ i < n + 1 by omega), Bool.false_and]
    refine Nat.testBit_lt_two_pow (Nat.lt_of_lt_of_le (show 2 ^ n + bitsP p n < 2 ^ (n + 1) by rw [Nat.pow_succ]; omega) (Nat.pow_le_pow_right (by decide) (by omega)))
  ·rw [if_neg hp, Nat.add_zero, bitsP_bit p i n]
   by_cases h : i < n
   ·rw [dec_t h, dec_t (show i < n + 1 by omega)]
   ·rw [dec_f h, Bool.false_and]
    by_cases h2 : i = n
    ·subst h2
     simp [hp]
    ·rw [dec_f (show ¬ i < n + 1 by omega), Bool.false_and]
theorem bitsP_or {p : Nat → Bool} {n : Nat} (hp : p n = true) : bitsP p n ||| 2 ^ n = bitsP p (n + 1) := by
 apply Nat.eq_of_testBit_eq
 intro i
 rw [Nat.testBit_or, bitsP_bit, bitsP_bit, Nat.testBit_two_pow]
 by_cases h : n = i
 ·subst h
  simp [hp]
 ·by_cases h2 : i < n
  ·rw [dec_t h2, dec_t (show i < n + 1 by omega), dec_f h]; simp
  ·rw [dec_f h2, dec_f (show ¬ i < n + 1 by omega), dec_f h]; simp
theorem bitsP_no {p : Nat → Bool} {n : Nat} (hp : p n = false) : bitsP p (n + 1) = bitsP p n := by
 simp only [bitsP, hp]
 simp
theorem bit_no (k i : Nat) (hk : k < 1000000000000) (hi : i ≤ 64) : (bitF BinOp.and IntKind.i64 (Int.fdiv (k : Int) (2 ^ min i 64)) 1 == 0) = !k.testBit i := by
 rw [← bit_ok k i hk hi, fdiv_pow k i hi]
 have hq : k / 2 ^ i ≤ k := Nat.div_le_self _ _
 generalize k / 2 ^ i = q at *
 have e2 : bitF BinOp.and IntKind.i64 (q : Int) 1 = ((q % 2 : Nat) : Int) := by
  show IntKind.wrap IntKind.i64 _ = _
  have : ((BitVec.ofInt (IntKind.bits IntKind.i64) (q : Int)) &&& (BitVec.ofInt (IntKind.bits IntKind.i64) 1)).toNat = q % 2 := by
   show ((BitVec.ofInt 64 (q : Int)) &&& (BitVec.ofInt 64 1)).toNat = q % 2
   have e3 : BitVec.ofInt 64 (q : Int) = BitVec.ofNat 64 q := by simp
   rw [e3, BitVec.toNat_and]
   simp only [BitVec.toNat_ofNat, BitVec.toNat_ofInt]
   have e4 : (1 : Int) % ((2 ^ 64 : Nat) : Int) = 1 := by decide
   rw [e4]
   rw [Nat.mod_eq_of_lt (by omega)]
   exact Nat.and_one_is_mod q
  rw [this]
  exact wrap_id (by omega) (by omega)
 rw [e2]
 have h2 : q % 2 = 0 ∨ q % 2 = 1 := by omega
 rcases h2 with h | h <;> simp [h]
def rowsTo (s : Su) (r : List Int) (a : Nat) (last : Nat) : List Int := (List.range 5).map fun i => if i < a then ((bitsP (canP s r i) s.2.2.1.length : Nat) : Int) else if i = a then (last : Int) else 0
theorem rows_set {s : Su} {r : List Int} {a l l' : Nat} : (rowsTo s r a l).set a (l' : Int) = rowsTo s r a l' := by
 apply List.ext_getElem
 ·simp [rowsTo]
 ·intro i h1 h2
  simp only [rowsTo, List.getElem_set, List.getElem_map, List.getElem_range]
  by_cases e : a = i
  ·subst e; simp
  ·rw [if_neg e]
   by_cases h : i < a
   ·rw [if_pos h, if_pos h]
   ·rw [if_neg h, if_neg h, if_neg (by omega), if_neg (by omega)]
theorem rows_at {s : Su} {r : List Int} {a l : Nat} (h : a < 5) : (rowsTo s r a l).getD a 0 = (l : Int) := by
 unfold rowsTo
 rw [List.getD_eq_getElem?_getD, List.getElem?_map, List.getElem?_range h]
 simp
theorem rows_next {s : Su} {r : List Int} {a : Nat} : rowsTo s r a (bitsP (canP s r a) s.2.2.1.length) = rowsTo s r (a + 1) 0 := by
 unfold rowsTo
 apply List.map_congr_left
 intro i _
 by_cases e : i = a
 ·subst e
  rw [if_neg (by omega), if_pos rfl, if_pos (by omega)]
 ·by_cases h : i < a
  ·rw [if_pos h, if_pos (by omega)]
  ·rw [if_neg h, if_neg e, if_neg (by omega)]
   split <;> rfl
theorem rows_all {s : Su} {r : List Int} : rowsTo s r s.2.2.1.length 0 = pairsP s r := by
 unfold rowsTo pairsP
 apply List.map_congr_left
 intro i _
 split
 ·rfl
 ·split <;> rfl
theorem rows_none {s : Su} {r : List Int} : rowsTo s r 0 0 = List.replicate 5 0 := by
 simp [rowsTo, List.range_succ]
theorem canP_eq (s : Su) (r : List Int) (a b : Nat) : canP s r a b = ((s.2.2.1.getD a sn0).2.1 == (s.2.2.1.getD b sn0).2.1 && (s.2.2.1.getD a sn0).1 != (s.2.2.1.getD b sn0).1 && !farP (placeP (s.2.2.1.getD a sn0) r (s.2.2.1.getD b sn0).1 - (s.2.2.1.getD b sn0).2.2.1) s.2.1) := rfl
theorem L123_1 {s : Su} (hs : VS s) (but : Int) {r : List Int} (hr : Good 3 16 r) {a : Nat} (ha : a < s.2.2.1.length) {y : denL [.arr 5 (.int .i64)]}
  (h : Ev fun k => T123_0 (hn s but) s.2.2.1 s.2.2.1.length ((a + 1 : Nat) : Int) r (List.replicate 5 0) (rowsTo s r (a + 1) 0) k = some y) :
  ∀ (c b : Nat), b + c = s.2.2.1.length → Ev fun k => T123_1 (hn s but) a s.2.2.1 s.2.2.1.length a s.2.2.1 s.2.2.1.length b r (List.replicate 5 0) (rowsTo s r a (bitsP (canP s r a) b)) (s.2.2.1.getD a sn0) k = some y := by
 have h5 := hs.n5
 intro c
 induction c with
 | zero =>
  intro b hb
  obtain rfl : b = s.2.2.1.length := by omega
  refine R123_1 _ _ _ _ _ _ _ _ _ _ _ _ ?_
  rw [dec_f (by omega), rows_next, wrap_succ (n := a) (by omega)]
  exact h
 | succ c ih =>
  intro b hb
  have hlt : b < s.2.2.1.length := by omega
  have ih := ih (b + 1) (by omega)
  have hx := hs.seen b hlt
  have hoff := hs.off
  have hpb := place_bd hs hr ha hx.1.1 hx.1.2
  refine R123_1 _ _ _ _ _ _ _ _ _ _ _ _ ?_
  have e : s.2.2.1.getD b (0, 0, 0, ()) = s.2.2.1.getD b sn0 := rfl
  rw [dec_t (show (b : Int) < (s.2.2.1.length : Int) by omega), dec_t (show (0 : Int) ≤ (b : Int) by omega), dec_t (show (0 : Int) ≤ (a : Int) by omega), dec_t (show (a : Int) < 5 by omega), dec_t (show (Int.toNat (a : Int)) < 5 by omega), dec_f (show ¬ (b : Int) < 0 by omega), wrap_succ (n := b) (by omega), Int.toNat_natCast, Int.toNat_natCast, e, L101 hs but hr a ha hx.1.1 hx.1.2]
  simp only [Bool.and_self, cond_true, cond_false, Option.bind_some]
  rw [wrap_id (x := placeP (s.2.2.1.getD a sn0) r (s.2.2.1.getD b sn0).1 - (s.2.2.1.getD b sn0).2.2.1) (by omega) (by omega), L104 _ _ (by omega) (by omega) (by omega) (by omega)]
  simp only [Option.bind_some]
  cases hc : canP s r a b with
  | true =>
   rw [canP_eq, Bool.and_eq_true, Bool.and_eq_true, Bool.not_eq_true', bne_iff_ne, beq_iff_eq] at hc
   obtain ⟨⟨c1, c2⟩, c3⟩ := hc
   have hc : canP s r a b = true := by
    rw [canP_eq, c3, Bool.and_eq_true, Bool.and_eq_true, bne_iff_ne, beq_iff_eq]; exact ⟨⟨c1, c2⟩, rfl⟩
   rw [← bitsP_or hc, ← rows_set] at ih
   have hlt' := bitsP_lt (canP s r a) b
   have h32 : 2 ^ b ≤ 32 := Nat.pow_le_pow_right (n := 2) (by decide) (show b ≤ 5 by omega)
   rw [c3, nbq c1, bqf c2, rows_at (by omega), shl_nat b (by omega), or_nat _ _ (by omega) (by omega)]
   exact ih
  | false =>
   rw [bitsP_no hc] at ih
   rw [canP_eq] at hc
   cases c1 : ((s.2.2.1.getD a sn0).2.1 == (s.2.2.1.getD b sn0).2.1) with
   | false =>
    rw [show ((s.2.2.1.getD a sn0).2.1 != (s.2.2.1.getD b sn0).2.1) = true by simpa using c1]
    exact ih
   | true =>
    rw [show ((s.2.2.1.getD a sn0).2.1 != (s.2.2.1.getD b sn0).2.1) = false by simpa using c1]
    cases c2 : ((s.2.2.1.getD a sn0).1 == (s.2.2.1.getD b sn0).1) with
    | true => exact ih
    | false =>
     have c2' : ((s.2.2.1.getD a sn0).1 != (s.2.2.1.getD b sn0).1) = true := by simpa using c2
     rw [c1, c2', Bool.true_and, Bool.true_and, Bool.not_eq_false'] at hc
     rw [hc]
     exact ih
theorem L123 {s : Su} (hs : VS s) (but : Int) {r : List Int} (hr : Good 3 16 r) : F123 ((hn s but, r, ()) : Option Sb × List Int × Unit) = some (pairsP s r, ()) := by
 have h5 := hs.n5
 refine N123 _ _ ?_
 simp only [Option.bind_some]
 have key : ∀ (c a : Nat), a + c = s.2.2.1.length → Ev fun k => T123_0 (hn s but) s.2.2.1 s.2.2.1.length a r (List.replicate 5 0) (rowsTo s r a 0) k = some (pairsP s r, ()) := by
  intro c
  induction c with
  | zero =>
   intro a ha
   obtain rfl : a = s.2.2.1.length := by omega
   refine R123_0 _ _ _ _ _ _ _ ?_
   rw [dec_f (by omega), rows_all]
   simp only [cond_false, Option.bind_some]
   exact Ev.all fun _ => by
    unfold guardP
    exact if_pos rfl
  | succ c ih =>
   intro a ha
   have hlt : a < s.2.2.1.length := by omega
   refine R123_0 _ _ _ _ _ _ _ ?_
   rw [dec_t (show (a : Int) < (s.2.2.1.length : Int) by omega), dec_t (show (0 : Int) ≤ (a : Int) by omega), Int.toNat_natCast]
   exact L123_1 hs but hr hlt (ih (a + 1) (by omega)) s.2.2.1.length 0 (by omega)
 have := key s.2.2.1.length 0 (by omega)
 rw [rows_none] at this
 refine this.mono fun k hk => ?_
 unfold dem
 exact (if_pos hk).trans hk
theorem pairs_at {s : Su} {r : List Int} {i : Nat} (hs : VS s) (hi : i < s.2.2.1.length) : (pairsP s r).getD i 0 = ((bitsP (canP s r i) s.2.2.1.length : Nat) : Int) := by
 have h5 := hs.n5
 unfold pairsP
 rw [List.getD_eq_getElem?_getD, List.getElem?_map, List.getElem?_range (by omega)]
 simp [hi]
theorem L121 {s : Su} (hs : VS s) (but : Int) (r g : List Int) (i k : Nat) (hi : i < s.2.2.1.length) :
  F121 ((hn s but, pairsP s r, g, (i : Int), (k : Int), ()) : Option Sb × List Int × List Int × Int × Int × Unit) = some (joinsP s r g i k, ()) := by
 have h5 := hs.n5
 have h32 : 2 ^ s.2.2.1.length ≤ 32 := Nat.pow_le_pow_right (n := 2) (by decide) (show s.2.2.1.length ≤ 5 from h5)
 have hbl := bitsP_lt (canP s r i) s.2.2.1.length
 refine N121 _ _ _ _ _ ?_
 have key : ∀ (c a : Nat), a + c = i → Ev fun k' => T121_0 (i : Int) (k : Int) (i : Int) (a : Int) (pairsP s r) g k' = some ((List.range' a c).all (fun a => g.getD a 0 != (k : Int) || canP s r i a), ()) := by
  intro c
  induction c with
  | zero =>
   intro a ha
   refine R121_0 _ _ _ _ _ _ ?_
   rw [dec_f (by omega)]
   exact Ev.all fun _ => rfl
  | succ c ih =>
   intro a ha
   have ih := ih (a + 1) (by omega)
   refine R121_0 _ _ _ _ _ _ ?_
   rw [dec_t (show (a : Int) < (i : Int) by omega), dec_t (show (0 : Int) ≤ (a : Int) by omega), dec_t (show (a : Int) < 5 by omega), dec_t (show Int.toNat (a : Int) < 5 by omega), dec_t (show (0 : Int) ≤ (i : Int) by omega), dec_t (show (i : Int) < 5 by omega), dec_t (show Int.toNat (i : Int) < 5 by omega), dec_f (show ¬ (a : Int) < 0 by omega), wrap_succ (n := a) (by omega), Int.toNat_natCast, Int.toNat_natCast, pairs_at hs hi, bit_no _ a (by omega) (by omega), bitsP_bit, dec_t (show a < s.2.2.1.length by omega), Bool.true_and, List.range'_succ, List.all_cons]
   simp only [cond_true, cond_false]
   cases hk : (g.getD a 0 == (k : Int)) with
   | false =>
    rw [show (g.getD a 0 != (k : Int)) = true by simpa using hk, Bool.true_or, Bool.true_and]
    exact ih
   | true =>
    rw [show (g.getD a 0 != (k : Int)) = false by simpa using hk, Bool.false_or]
    cases hc : canP s r i a with
    | false => exact Ev.all fun _ => rfl
    | true => rw [Bool.true_and]; exact ih
 have := key i 0 (by omega)
 rw [← List.range_eq_range'] at this
 exact this
theorem L125 {s : Su} (hs : VS s) {but : Nat} (hb : but < 1000000000000) {g : List Int} : F125 ((hn s but, g, ()) : Option Sb × List Int × Unit) = some (soP s but.testBit g, ()) := by
 have h5 := hs.n5
 have h3 := hs.t3
 refine N125 _ _ ?_
 simp only [Option.bind_some]
 have key : ∀ (c i : Nat), i + c = s.2.2.2.1.length → Ev fun k => T125_0 (hn s but) s.2.2.2.1.length i g k = some ((List.range' i c).all (fun i => but.testBit i || ((g.getD (s.2.2.2.1.getD i tl0).1.toNat 0 == g.getD (s.2.2.2.1.getD i tl0).2.1.toNat 0) == (s.2.2.2.1.getD i tl0).2.2.1)), ()) := by
  intro c
  induction c with
  | zero =>
   intro i hi
   refine R125_0 _ _ _ _ ?_
   rw [dec_f (by omega)]
   exact Ev.all fun _ => rfl
  | succ c ih =>
   intro i hi
   have ih := ih (i + 1) (by omega)
   have hlt : i < s.2.2.2.1.length := by omega
   have ht := hs.told i hlt
   refine R125_0 _ _ _ _ ?_
   have e : s.2.2.2.1.getD i (0, 0, false, ()) = s.2.2.2.1.getD i tl0 := rfl
   simp only [Option.bind_some]
   rw [dec_t (show (i : Int) < (s.2.2.2.1.length : Int) by omega), dec_t (show (0 : Int) ≤ (i : Int) by omega), dec_f (show ¬ (i : Int) < 0 by omega), wrap_succ (n := i) (by omega), Int.toNat_natCast, e, bit_no but i hb (by omega), List.range'_succ, List.all_cons]
   generalize s.2.2.2.1.getD i tl0 = x at *
   rw [dec_t (show 0 ≤ x.1 by omega), dec_t (show x.1 < 5 by omega), dec_t (show x.1.toNat < 5 by omega), dec_t (show 0 ≤ x.2.1 by omega), dec_t (show x.2.1 < 5 by omega), dec_t (show x.2.1.toNat < 5 by omega)]
   simp only [Bool.and_self, cond_true, cond_false]
   cases hbt : but.testBit i with
   | true => rw [Bool.true_or, Bool.true_and]; exact ih
   | false =>
    rw [Bool.false_or]
    have e2 : eqD Ty.bool (g.getD x.1.toNat 0 == g.getD x.2.1.toNat 0) x.2.2.1 = ((g.getD x.1.toNat 0 == g.getD x.2.1.toNat 0) == x.2.2.1) := by simp only [eqD]
    cases hq : ((g.getD x.1.toNat 0 == g.getD x.2.1.toNat 0) == x.2.2.1) with
    | true =>
     rw [hq] at e2
     rw [Bool.true_and]
     simp only [e2, Bool.not_false, Bool.not_true, cond_true, cond_false]
     exact ih
    | false =>
     rw [hq] at e2
     simp only [e2, Bool.not_false, cond_true]
     exact Ev.all fun _ => rfl
 have := key s.2.2.2.1.length 0 (by omega)
 rw [← List.range_eq_range'] at this
 exact this
def manyP (n : Nat) (g : List Int) : Nat := ((List.range n).filter fun i => g.getD i 0 == (i : Int)).length
theorem manyP_le (n : Nat) (g : List Int) : manyP n g ≤ n := by
 unfold manyP
 have := List.length_filter_le (fun i => g.getD i 0 == (i : Int)) (List.range n)
 simpa using this
theorem manyP_succ (n : Nat) (g : List Int) : manyP (n + 1) g = manyP n g + (if g.getD n 0 = (n : Int) then 1 else 0) := by
 unfold manyP
 rw [List.range_succ, List.filter_append, List.length_append]
 congr 1
 by_cases h : g.getD n 0 = (n : Int)
 ·rw [if_pos h, List.filter_cons, bq h]; rfl
 ·rw [if_neg h, List.filter_cons, show (g.getD n 0 == (n : Int)) = false by simpa using h]; rfl
theorem L96 {s : Su} (hs : VS s) (but : Int) (g : List Int) : F96 ((hn s but, g, ()) : Option Sb × List Int × Unit) = some ((manyP s.2.2.1.length g : Int), ()) := by
 have h5 := hs.n5
 refine N96 _ _ ?_
 simp only [Option.bind_some]
 have key : ∀ (c i : Nat), i + c = s.2.2.1.length → Ev fun k => T96_0 (manyP i g : Int) s.2.2.1.length i g k = some ((manyP s.2.2.1.length g : Int), ()) := by
  intro c
  induction c with
  | zero =>
   intro i hi
   obtain rfl : i = s.2.2.1.length := by omega
   refine R96_0 _ _ _ _ ?_
   rw [dec_f (by omega)]
   exact Ev.all fun _ => rfl
  | succ c ih =>
   intro i hi
   have ih := ih (i + 1) (by omega)
   have hl := manyP_le i g
   refine R96_0 _ _ _ _ ?_
   rw [dec_t (show (i : Int) < (s.2.2.1.length : Int) by omega), dec_t (show (0 : Int) ≤ (i : Int) by omega), dec_t (show (i : Int) < 5 by omega), dec_t (show Int.toNat (i : Int) < 5 by omega), wrap_succ (n := i) (by omega), wrap_succ (n := manyP i g) (by omega), Int.toNat_natCast]
   simp only [Bool.and_self, cond_true]
   rw [manyP_succ] at ih
   by_cases h : g.getD i 0 = (i : Int)
   ·rw [if_pos h] at ih
    rw [show (g.getD i 0 == (i : Int)) = true by simpa using h]
    exact ih
   ·rw [if_neg h] at ih
    rw [show (g.getD i 0 == (i : Int)) = false by simpa using h]
    exact ih
 exact key s.2.2.1.length 0 (by omega)
theorem L105 (s : Su) (but : Int) : F105 ((s, but, ()) : Su × Int × Unit) = some (hn s but, ()) := by
 refine N105 _ _ ?_
 exact Ev.all fun _ => by
  unfold guardP
  exact if_pos rfl
def outP (below x : Int) : Bool := decide (x < 0) || decide (x > below - 1)
theorem L99 (x : Int) : F99 ((x, ()) : Int × Unit) = some ((!outP 31 x, 7, ()), ()) := by
 refine N99 _ ?_
 rw [L78_1]
 exact Ev.all fun _ => rfl
theorem L85 (n : Nat) (hn : n < 1000000000000) (l : List Int) (hl : l.length < 1000000000000) : F85 (((n : Int), l, ()) : Int × List Int × Unit) = some ((!l.any (outP n), 4, ()), ()) := by
 refine N85 _ _ ?_
 rw [wrap_id (by omega) (by omega), L78 _ _ _ hl]
 exact Ev.all fun _ => rfl
theorem L98 (l p : List Int) (hl : l.length < 1000000000) : F98 ((l, p, ()) : List Int × List Int × Unit) = some (Few.cmpL l p, ()) := by
 refine N98 _ _ ?_
 have key : ∀ (c i : Nat), i + c = l.length → Few.cmpL (l.drop i) (p.drop i) = Few.cmpL l p → i ≤ p.length → Ev fun k => T98_0 l p l l.length i k = some (Few.cmpL l p, ()) := by
  intro c
  induction c with
  | zero =>
   intro i hi he hp
   refine R98_0 _ _ _ _ _ ?_
   rw [dec_f (show ¬ ((i : Int) < (l.length : Int)) by omega), ← he, List.drop_eq_nil_of_le (show l.length ≤ i by omega)]
   simp only [cond_false]
   by_cases h : (l.length : Int) < (p.length : Int)
   ·rw [dec_t h, List.drop_eq_getElem_cons (show i < p.length by omega)]
    exact Ev.all fun _ => by first | rfl | trivial
   ·rw [dec_f h, List.drop_eq_nil_of_le (by omega)]
    exact Ev.all fun _ => by first | rfl | trivial
  | succ c ih =>
   intro i hi he hp
   refine R98_0 _ _ _ _ _ ?_
   have hlt : i < l.length := by omega
   rw [dec_t (show (i : Int) < (l.length : Int) by omega), dec_t (show (0 : Int) ≤ (i : Int) by omega), wrap_succ (n := i) (by omega), Int.toNat_natCast, getD_lt hlt]
   simp only [Bool.and_self, cond_true, Bool.true_and]
   rw [List.drop_eq_getElem_cons hlt] at he
   by_cases h : i < p.length
   ·rw [dec_f (show ¬ ((i : Int) ≥ (p.length : Int)) by omega), dec_t (show (i : Int) < (p.length : Int) by omega), getD_lt h]
    rw [List.drop_eq_getElem_cons h, Few.cmpL] at he
    simp only [cond_true, cond_false, bne_self_eq_false]
    unfold Few.cmp1 at he
    by_cases h1 : l[i] < p[i]
    ·rw [if_pos h1] at he
     rw [dec_t h1, ← he]
     exact Ev.all fun _ => rfl
    ·rw [if_neg h1] at he
     rw [dec_f h1]
     by_cases h2 : l[i] > p[i]
     ·rw [if_pos h2] at he
      rw [dec_t h2, ← he]
      exact Ev.all fun _ => rfl
     ·rw [if_neg h2] at he
      rw [dec_f h2]
      exact ih (i + 1) (by omega) he (by omega)
   ·rw [dec_t (show (i : Int) ≥ (p.length : Int) by omega), ← he, List.drop_eq_nil_of_le (show p.length ≤ i by omega)]
    exact Ev.all fun _ => by first | rfl | trivial
 exact key l.length 0 (by omega) rfl (Nat.zero_le _)
end Go.Proofs.Ytkhhbpocmmmnmaa
