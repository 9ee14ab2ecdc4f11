/- All truths of a series, and how a function goes through them. Conditions: as each lemma states (plain Lean, no program in sight). -/
import Derived.Test.YtkbephbhajplhaaDoorCyX
import Derived.Test.YtkbephbhajplhaaDoorGhI
import Derived.Test.YtkbephbhajplhaaDoorCyT
namespace Go.Proofs.YtkbephbhajplhaaDoor
open Go Go.Gh Go.Proofs
structure VS (s : Se) : Prop where
 lo : 3 ≤ s.1.length
 hi : s.1.length ≤ 7
 years : ∀ i, i < s.1.length → 0 ≤ (s.1.getD i sp0).1 ∧ (s.1.getD i sp0).1 ≤ (s.1.getD i sp0).2.1 ∧ (s.1.getD i sp0).2.1 ≤ 99 ∧ (s.1.getD i sp0).2.1 - (s.1.getD i sp0).1 ≤ 3
 many : s.2.1.length ≤ 4
 sums : ∀ k, k < s.2.1.length → 0 ≤ (s.2.1.getD k sm0).1 ∧ (s.2.1.getD k sm0).1 ≤ (s.2.1.getD k sm0).2.1 ∧ (s.2.1.getD k sm0).2.1 < s.1.length ∧ 0 ≤ (s.2.1.getD k sm0).2.2.1.1 ∧ (s.2.1.getD k sm0).2.2.1.1 ≤ (s.2.1.getD k sm0).2.2.1.2.1 ∧ (s.2.1.getD k sm0).2.2.1.2.1 ≤ 999
 gap : 2 ≤ s.2.2.1.1 ∧ s.2.2.1.1 ≤ s.2.2.1.2.1 ∧ s.2.2.1.2.1 ≤ 7
def sumI : List Int → Int
 | [] => 0
 | x :: r => x + sumI r
def sumL (t : List Int) (a b : Nat) : Int := sumI ((t.take (b + 1)).drop a)
def denS (s : Se) (but : Nat) (t : List Int) (i k : Nat) : Bool :=
 (s.2.1.getD k sm0).2.1 == (i : Int) && !but.testBit k && (decide (sumL t (s.2.1.getD k sm0).1.toNat i < (s.2.1.getD k sm0).2.2.1.1) || decide (sumL t (s.2.1.getD k sm0).1.toNat i > (s.2.1.getD k sm0).2.2.1.2.1))
def okFrom (s : Se) (but : Nat) (t : List Int) (i : Nat) : Nat → Nat → Bool
 | 0, _ => true
 | c + 1, k => !denS s but t i k && okFrom s but t i c (k + 1)
def okS (s : Se) (but : Nat) (t : List Int) (i : Nat) : Bool := okFrom s but t i s.2.1.length 0
def isTop (n : Nat) (t : List Int) (i : Nat) : Bool := decide (0 < i) && decide (i + 1 < n) && topP t i
def topsFrom (n : Nat) (t : List Int) (k : Nat) : List Nat := (List.range' k (n - k)).filter (isTop n t)
def inGap (g : Sp) (x : Int) : Bool := decide (g.1 ≤ x) && decide (x ≤ g.2.1)
def gapChk (g : Sp) : Int → List Nat → Bool
 | _, [] => true
 | l, k :: r => (decide (l < 0) || inGap g ((k : Int) - l)) && gapChk g k r
def gapsOK (s : Se) (t : List Int) : Bool := gapChk s.2.2.1 (-1) (topsFrom s.1.length t 0)
def pad (p : List Int) : List Int := p ++ List.replicate (7 - p.length) 0
def valsOf (s : Se) (i : Nat) : List Int := Few.upto (s.1.getD i sp0).1 ((s.1.getD i sp0).2.1 + 1)
def ext (s : Se) (but : Nat) : Nat → List Int → List (List Int)
 | 0, p => if gapsOK s (pad p) = true then [pad p] else []
 | c + 1, p => (valsOf s p.length).flatMap fun v => if okS s but (p ++ [v]) p.length = true then ext s but c (p ++ [v]) else []
def truthsP (s : Se) (but : Nat) : List (List Int) := ext s but s.1.length []
def foldT {C X : Type} (step : C → X → C × Bool) : List X → C → C × Bool
 | [], c => (c, true)
 | x :: r, c => match step c x with
  | (c', true) => foldT step r c'
  | (c', false) => (c', false)
theorem foldT_append {C X : Type} (step : C → X → C × Bool) : ∀ (a b : List X) (c : C), foldT step (a ++ b) c = match foldT step a c with
  | (c', true) => foldT step b c'
  | (c', false) => (c', false)
 | [], b, c => rfl
 | x :: a, b, c => by
  simp only [List.cons_append, foldT]
  cases h : step c x with
  | mk c' ok =>
   cases ok with
   | true => exact foldT_append step a b c'
   | false => rfl
structure Good (t : List Int) : Prop where
 len : t.length = 7
 bd : ∀ x ∈ t, 0 ≤ x ∧ x ≤ 99
theorem Good.at {t : List Int} (h : Good t) (i : Nat) : 0 ≤ t.getD i 0 ∧ t.getD i 0 ≤ 99 := by
 rw [List.getD_eq_getElem?_getD]
 cases hq : t[i]? with
 | none => simp
 | some x => exact h.bd x (List.mem_of_getElem? hq)
theorem Good.set {t : List Int} (h : Good t) {i : Nat} {v : Int} (h0 : 0 ≤ v) (h1 : v ≤ 99) : Good (t.set i v) :=
 ⟨by simp [h.len], fun x hx => by
   rcases List.mem_or_eq_of_mem_set hx with hx | rfl
   ·exact h.bd x hx
   ·exact ⟨h0, h1⟩⟩
theorem sumL_take {t q : List Int} {a i : Nat} (h : t.take (i + 1) = q) (hq : q.length = i + 1) : sumL t a i = sumL q a i := by
 unfold sumL
 rw [h, List.take_of_length_le (by omega)]
theorem denS_take {s : Se} {but : Nat} {t q : List Int} {i k : Nat} (h : t.take (i + 1) = q) (hq : q.length = i + 1) : denS s but t i k = denS s but q i k := by
 simp only [denS, sumL_take h hq]
structure Dfs (C R : Type) (s : Se) (but : Nat) (step : C → List Int → C × Bool) where
 A0 : Nat → C → List Int → List Int → R → Prop
 A1 : Nat → Int → C → List Int → List Int → Bool → R → Prop
 A2 : Int → Nat → C → List Int → Bool → R → Prop
 A3 : Nat → Int → Nat → C → List Int → List Int → Bool → R → Prop
 P : Bool → C → List Int → List Int → R
 node : ∀ {i C t l y}, i < s.1.length → A1 i (s.1.getD i sp0).1 C t l false y → A0 i C t l y
 leaf : ∀ {C t l y}, t ≠ l → Good t → A2 (-1) 0 C t false y → A0 s.1.length C t l y
 done : ∀ {i v C t l b}, i < s.1.length → (s.1.getD i sp0).2.1 < v → A1 i v C t l b (P true C t l)
 val : ∀ {i v C t l b y}, i < s.1.length → v ≤ (s.1.getD i sp0).2.1 → A3 i v 0 C (t.set i v) l b y → A1 i v C t l b y
 pass : ∀ {i v k C t l b y}, i < s.1.length → v ≤ 99 → 0 ≤ v → k < s.2.1.length → Good t → denS s but t i k = false → A3 i v (k + 1) C t l b y → A3 i v k C t l b y
 deny : ∀ {i v k C t l b y}, i < s.1.length → v ≤ 99 → 0 ≤ v → k < s.2.1.length → Good t → denS s but t i k = true → A1 i (v + 1) C t l b y → A3 i v k C t l b y
 call : ∀ {i v C t l b y ok C' t' l'}, i < s.1.length → v ≤ 99 → 0 ≤ v → A0 (i + 1) C t l (P ok C' t' l') → (ok = true → A1 i (v + 1) C' t' l' b y) → (ok = false → y = P false C' t' l') → A3 i v s.2.1.length C t l b y
 skip : ∀ {l4 k C t b y}, k < s.1.length → isTop s.1.length t k = false → -1 ≤ l4 → l4 ≤ 7 → A2 l4 (k + 1) C t b y → A2 l4 k C t b y
 near : ∀ {l4 k C t b y}, k < s.1.length → isTop s.1.length t k = true → -1 ≤ l4 → l4 ≤ 7 → (decide (l4 < 0) || inGap s.2.2.1 ((k : Int) - l4)) = true → A2 k (k + 1) C t b y → A2 l4 k C t b y
 far : ∀ {l4 k C t b}, k < s.1.length → isTop s.1.length t k = true → -1 ≤ l4 → l4 ≤ 7 → (decide (l4 < 0) || inGap s.2.2.1 ((k : Int) - l4)) = false → A2 l4 k C t b (P true C t t)
 fin : ∀ {l4 C t b}, Good t → A2 l4 s.1.length C t b (P (step C t).2 (step C t).1 t t)
namespace Dfs
variable {Q R : Type} {s : Se} {but : Nat} {step : Q → List Int → Q × Bool} (D : Dfs Q R s but step)
 include D
theorem gaps {t : List Int} (ht : Good t) (C : Q) (b : Bool) (h7 : s.1.length ≤ 7) : ∀ (c k : Nat) (l4 : Int), k + c = s.1.length → -1 ≤ l4 → l4 ≤ 7 →
  D.A2 l4 k C t b (if gapChk s.2.2.1 l4 (topsFrom s.1.length t k) = true then D.P (step C t).2 (step C t).1 t t else D.P true C t t) := by
 intro c
 induction c with
 | zero =>
  intro k l4 hk _ _
  obtain rfl : k = s.1.length := by omega
  have : topsFrom s.1.length t s.1.length = [] := by simp [topsFrom]
  rw [this]
  simp only [gapChk, if_true]
  exact D.fin ht
 | succ c ih =>
  intro k l4 hk h1 h2
  have hlt : k < s.1.length := by omega
  have hcons : topsFrom s.1.length t k = if isTop s.1.length t k = true then k :: topsFrom s.1.length t (k + 1) else topsFrom s.1.length t (k + 1) := by
   unfold topsFrom
   rw [show s.1.length - k = (s.1.length - (k + 1)) + 1 from by omega, List.range'_succ, List.filter_cons]
  cases ht2 : isTop s.1.length t k with
  | false =>
   rw [ht2] at hcons
   rw [hcons]
   exact D.skip hlt ht2 h1 h2 (ih (k + 1) l4 (by omega) h1 h2)
  | true =>
   rw [ht2, if_pos rfl] at hcons
   rw [hcons]
   have hq : gapChk s.2.2.1 l4 (k :: topsFrom s.1.length t (k + 1)) = ((decide (l4 < 0) || inGap s.2.2.1 ((k : Int) - l4)) && gapChk s.2.2.1 k (topsFrom s.1.length t (k + 1))) := rfl
   cases hg : (decide (l4 < 0) || inGap s.2.2.1 ((k : Int) - l4)) with
   | true =>
    rw [hg, Bool.true_and] at hq
    rw [hq]
    exact D.near hlt ht2 h1 h2 hg (ih (k + 1) k (by omega) (by omega) (by omega))
   | false =>
    rw [hg, Bool.false_and] at hq
    rw [hq]
    exact D.far hlt ht2 h1 h2 hg
theorem sumsLoop {i : Nat} {v : Int} (hi : i < s.1.length) (hv : 0 ≤ v ∧ v ≤ 99) {t : List Int} (ht : Good t) (C : Q) (l : List Int) (b : Bool) (y : R) : ∀ (c k : Nat), k + c = s.2.1.length →
  (okFrom s but t i c k = true → D.A3 i v s.2.1.length C t l b y) → (okFrom s but t i c k = false → D.A1 i (v + 1) C t l b y) → D.A3 i v k C t l b y := by
 intro c
 induction c with
 | zero =>
  intro k hk h1 _
  obtain rfl : k = s.2.1.length := by omega
  exact h1 rfl
 | succ c ih =>
  intro k hk h1 h2
  simp only [okFrom] at h1 h2
  cases hd : denS s but t i k with
  | true =>
   rw [hd] at h2
   exact D.deny hi hv.2 hv.1 (by omega) ht hd (h2 rfl)
  | false =>
   rw [hd] at h1 h2
   exact D.pass hi hv.2 hv.1 (by omega) ht hd (ih (k + 1) (by omega) h1 h2)
theorem run (hs : VS s) : ∀ (c i : Nat) (p : List Int) (C : Q) (t l : List Int), i + c = s.1.length → p.length = i → Good t → t.take i = p → t.drop s.1.length = List.replicate (7 - s.1.length) 0 →
  (i = s.1.length → ¬ p <+: l) → (i < s.1.length → ∀ w, 0 ≤ w → ¬ (p ++ [w]) <+: l) →
  ∃ t' l', Good t' ∧ t'.take i = p ∧ t'.drop s.1.length = List.replicate (7 - s.1.length) 0 ∧ (l' = l ∨ p <+: l') ∧
   D.A0 i C t l (D.P (foldT step (ext s but c p) C).2 (foldT step (ext s but c p) C).1 t' l') := by
 intro c
 induction c with
 | zero =>
  intro i p C t l hi hp ht htp hz hl _
  obtain rfl : i = s.1.length := by omega
  have hpad : pad p = t := by
   unfold pad
   rw [hp, ← hz, ← htp, List.take_append_drop]
  have hne : t ≠ l := fun e => hl rfl (by rw [← e, ← htp]; exact List.take_prefix _ _)
  refine ⟨t, t, ht, htp, hz, .inr (by rw [← htp]; exact List.take_prefix _ _), ?_⟩
  refine D.leaf hne ht ?_
  have := D.gaps ht C false hs.hi s.1.length 0 (-1) (by omega) (by omega) (by omega)
  simp only [ext, hpad, gapsOK]
  cases hg : gapChk s.2.2.1 (-1) (topsFrom s.1.length t 0) with
  | true =>
   rw [hg] at this
   simp only [if_true] at this ⊢
   have e : foldT step [t] C = step C t := by
    simp only [foldT]
    cases step C t with
    | mk c' ok => cases ok <;> rfl
   rw [e]
   exact this
  | false =>
   rw [hg] at this
   simpa [foldT] using this
 | succ c ih =>
  intro i p C t l hi hp ht htp hz _ hl
  have hlt : i < s.1.length := by omega
  have hy := hs.years i hlt
  have h7 := hs.hi
  have vals : ∀ (d : Nat) (v : Int) (C : Q) (t l : List Int) (b : Bool), v + d = (s.1.getD i sp0).2.1 + 1 → (s.1.getD i sp0).1 ≤ v → Good t → t.take i = p → t.drop s.1.length = List.replicate (7 - s.1.length) 0 → (∀ w, v ≤ w → ¬ (p ++ [w]) <+: l) →
    ∃ t' l', Good t' ∧ t'.take i = p ∧ t'.drop s.1.length = List.replicate (7 - s.1.length) 0 ∧ (l' = l ∨ p <+: l') ∧
     D.A1 i v C t l b (D.P (foldT step ((Few.upto v ((s.1.getD i sp0).2.1 + 1)).flatMap fun v => if okS s but (p ++ [v]) p.length = true then ext s but c (p ++ [v]) else []) C).2
      (foldT step ((Few.upto v ((s.1.getD i sp0).2.1 + 1)).flatMap fun v => if okS s but (p ++ [v]) p.length = true then ext s but c (p ++ [v]) else []) C).1 t' l') := by
   intro d
   induction d with
   | zero =>
    intro v C t l b hv _ ht htp hz _
    rw [Few.upto_nil (by omega)]
    exact ⟨t, l, ht, htp, hz, .inl rfl, D.done hlt (by omega)⟩
   | succ d ihd =>
    intro v C t l b hv hlo ht htp hz hD
    have hv0 : 0 ≤ v ∧ v ≤ 99 := by omega
    rw [Few.upto_cons (show v < (s.1.getD i sp0).2.1 + 1 by omega), List.flatMap_cons]
    have ht1 : Good (t.set i v) := ht.set hv0.1 hv0.2
    have hil : i < t.length := by rw [ht.len]; omega
    have htp1 : (t.set i v).take (i + 1) = p ++ [v] := by
     rw [List.take_add_one, List.take_set_of_le (Nat.le_refl i), htp]
     simp [hil]
    have htpi : (t.set i v).take i = p := by rw [List.take_set_of_le (Nat.le_refl i), htp]
    have hz1 : (t.set i v).drop s.1.length = List.replicate (7 - s.1.length) 0 := by rw [List.drop_set_of_lt hlt, hz]
    have hq : (p ++ [v]).length = i + 1 := by simp [hp]
    have hok : okFrom s but (t.set i v) i s.2.1.length 0 = okS s but (p ++ [v]) p.length := by
     rw [hp]
     unfold okS
     have : ∀ (c k : Nat), okFrom s but (t.set i v) i c k = okFrom s but (p ++ [v]) i c k := by
      intro c
      induction c with
      | zero => intro k; rfl
      | succ c ih => intro k; simp only [okFrom, ih, denS_take htp1 hq]
     exact this _ _
    cases hb : okS s but (p ++ [v]) p.length with
    | false =>
     simp only [Bool.false_eq_true, if_false, List.nil_append]
     obtain ⟨t', l', g1, g2, g3, g4, g5⟩ := ihd (v + 1) C (t.set i v) l b (by omega) (by omega) ht1 htpi hz1 (fun w hw => hD w (by omega))
     refine ⟨t', l', g1, g2, g3, g4, D.val hlt (by omega) (D.sumsLoop hlt hv0 ht1 C l b _ s.2.1.length 0 (by omega) (fun h => ?_) (fun _ => g5))⟩
     rw [hok, hb] at h; cases h
    | true =>
     simp only [if_true]
     have hnp : ¬ (p ++ [v]) <+: l := hD v (Int.le_refl v)
     obtain ⟨t2, l2, f1, f2, f3, f4, f5⟩ := ih (i + 1) (p ++ [v]) C (t.set i v) l (by omega) hq ht1 htp1 hz1 (fun _ => hnp) (fun _ w _ h => hnp ((List.prefix_append _ _).trans h))
     have f2' : t2.take i = p := by
      have : (t2.take (i + 1)).take i = p := by rw [f2, List.take_append_of_le_length (by omega), List.take_of_length_le (by omega)]
      rw [List.take_take, Nat.min_eq_left (by omega)] at this
      exact this
     have hD2 : ∀ w, v + 1 ≤ w → ¬ (p ++ [w]) <+: l2 := by
      intro w hw h
      rcases f4 with rfl | f4
      ·exact hD w (by omega) h
      ·have e1 := List.prefix_iff_eq_take.1 h
       have e2 := List.prefix_iff_eq_take.1 f4
       have e3 : (p ++ [w]).length = (p ++ [v]).length := by simp
       rw [e3, ← e2] at e1
       have := List.append_cancel_left e1
       simp only [List.cons.injEq, and_true] at this
       omega
     rw [foldT_append]
     generalize hr : foldT step (ext s but c (p ++ [v])) C = r at f5
     obtain ⟨C2, ok⟩ := r
     cases ok with
     | false =>
      simp only
      refine ⟨t2, l2, f1, f2', f3, f4.imp id (fun h => (List.prefix_append _ _).trans h), D.val hlt (by omega) (D.sumsLoop hlt hv0 ht1 C l b _ s.2.1.length 0 (by omega) (fun _ => ?_) (fun h => ?_))⟩
      ·exact D.call hlt hv0.2 hv0.1 f5 (fun h => by cases h) (fun _ => rfl)
      ·rw [hok, hb] at h; cases h
     | true =>
      simp only
      obtain ⟨t3, l3, g1, g2, g3, g4, g5⟩ := ihd (v + 1) C2 t2 l2 b (by omega) (by omega) f1 f2' f3 hD2
      refine ⟨t3, l3, g1, g2, g3, ?_, D.val hlt (by omega) (D.sumsLoop hlt hv0 ht1 C l b _ s.2.1.length 0 (by omega) (fun _ => ?_) (fun h => ?_))⟩
      ·rcases g4 with rfl | g4
       ·exact f4.imp id (fun h => (List.prefix_append _ _).trans h)
       ·exact .inr g4
      ·exact D.call hlt hv0.2 hv0.1 f5 (fun _ => g5) (fun h => by cases h)
      ·rw [hok, hb] at h; cases h
  obtain ⟨t', l', g1, g2, g3, g4, g5⟩ := vals ((s.1.getD i sp0).2.1 + 1 - (s.1.getD i sp0).1).toNat (s.1.getD i sp0).1 C t l false (by omega) (Int.le_refl _) ht htp hz (fun w hw => hl hlt w (by omega))
  refine ⟨t', l', g1, g2, g3, g4, D.node hlt ?_⟩
  simp only [ext, valsOf, hp] at g5 ⊢
  exact g5
theorem start (hs : VS s) (C : Q) : ∃ t' l', Good t' ∧ D.A0 0 C (List.replicate 7 0) (-1 :: List.replicate 6 0) (D.P (foldT step (truthsP s but) C).2 (foldT step (truthsP s but) C).1 t' l') := by
 have h3 := hs.lo
 obtain ⟨t', l', h1, _, _, _, h⟩ := D.run hs s.1.length 0 [] C (List.replicate 7 0) (-1 :: List.replicate 6 0) (by omega) rfl ⟨by simp, fun x hx => by rw [List.mem_replicate] at hx; omega⟩ rfl (by rw [List.drop_replicate]) (fun h => by omega) (fun _ w hw h => by
  rw [List.nil_append, List.cons_prefix_cons] at h
  omega)
 exact ⟨t', l', h1, h⟩
end Dfs
end Go.Proofs.YtkbephbhajplhaaDoor
/- The program's small functions. Conditions: as each lemma states. -/
namespace Go.Proofs.YtkbephbhajplhaaDoor
open Go Go.Gh Go.Proofs
theorem L84 (lo hi : Int) (l : List Int) (hl : l.length < 1000000000000) : F84 ((lo, hi, l, ()) : Int × Int × List Int × Unit) = some (l.any (fun n => decide (n < lo) || decide (n > hi)), ()) := by
 refine ghost_eq (Ev.eq (fun _ => E84 _ lo hi l) ?_)
 have key : ∀ (c i : Nat), i + c = l.length → Ev fun k => T84_0 l l.length i l l lo hi k = some ((l.drop i).any (fun n => decide (n < lo) || decide (n > hi)), ()) := by
  intro c
  induction c with
  | zero =>
   intro i hi'
   refine U84_0 _ _ _ _ _ _ _ (Ev.eq (fun _ => Q84_0 _ _ _ _ _ _ _ _) ?_)
   rw [dec_f (by omega), List.drop_eq_nil_of_le (by omega)]
   exact Ev.all fun _ => by first | rfl | trivial
  | succ c ih =>
   intro i hi'
   have hlt : i < l.length := by omega
   refine U84_0 _ _ _ _ _ _ _ (Ev.eq (fun _ => Q84_0 _ _ _ _ _ _ _ _) ?_)
   rw [dec_t (show (i : Int) < (l.length : Int) by omega), dec_t (show (0 : Int) ≤ (i : Int) by omega), wrap_succ (n := i) (by omega), Int.toNat_natCast, getD_lt hlt, List.drop_eq_getElem_cons hlt, List.any_cons]
   simp only [Bool.and_self, cond_true]
   by_cases h1 : l[i] < lo
   ·simp only [dec_t h1, cond_true]
    exact Ev.all fun _ => by simp
   ·simp only [dec_f h1, cond_false]
    by_cases h2 : l[i] > hi
    ·simp only [dec_t h2, cond_true]
     exact Ev.all fun _ => by simp
    ·simp only [dec_f h2, cond_false, Bool.or_self, Bool.false_or]
     exact ih (i + 1) (by omega)
 have := key l.length 0 (by omega)
 rw [List.drop_zero] at this
 exact this
theorem L84_1 (lo hi n : Int) : F84 ((lo, hi, List.set (List.replicate 1 0) 0 n, ()) : Int × Int × List Int × Unit) = some (decide (n < lo) || decide (n > hi), ()) := by
 rw [show List.set (List.replicate 1 (0 : Int)) 0 n = [n] from rfl, L84 _ _ _ (by simp), any1]
theorem L84_2 (lo hi n m : Int) : F84 ((lo, hi, List.set (List.set (List.replicate 2 0) 0 n) 1 m, ()) : Int × Int × List Int × Unit) = some (decide (n < lo) || decide (n > hi) || (decide (m < lo) || decide (m > hi)), ()) := by
 rw [show List.set (List.set (List.replicate 2 (0 : Int)) 0 n) 1 m = [n, m] from rfl, L84 _ _ _ (by simp)]
 simp
def endsP (x : Sp) (lo hi : Int) : Int := if (decide (x.1 < lo) || decide (x.1 > hi) || (decide (x.2.1 < lo) || decide (x.2.1 > hi))) = true then 7 else if x.1 > x.2.1 then 2 else 0
theorem L81 (x : Sp) (lo hi : Int) : F81 ((x, lo, hi, ()) : Sp × Int × Int × Unit) = some (endsP x lo hi, ()) := by
 refine ghost_eq (Ev.eq (fun _ => E81 _ _ _ _) ?_)
 rw [L84_2]
 simp only [Option.bind_some]
 unfold endsP
 cases (decide (x.1 < lo) || decide (x.1 > hi) || (decide (x.2.1 < lo) || decide (x.2.1 > hi))) with
 | true => exact Ev.all fun _ => by first | rfl | trivial
 | false =>
  simp only [cond_false, Bool.false_eq_true, if_false]
  by_cases h : x.1 > x.2.1
  ·rw [dec_t h, if_pos h]; exact Ev.all fun _ => by first | rfl | trivial
  ·rw [dec_f h, if_neg h]; exact Ev.all fun _ => by first | rfl | trivial
theorem sumI_append (a b : List Int) : sumI (a ++ b) = sumI a + sumI b := by
 induction a with
 | nil => simp [sumI]
 | cons x a ih => simp only [List.cons_append, sumI, ih]; omega
theorem sumI_bd {l : List Int} (h : ∀ x ∈ l, 0 ≤ x ∧ x ≤ 99) : 0 ≤ sumI l ∧ sumI l ≤ 99 * l.length := by
 induction l with
 | nil => simp [sumI]
 | cons x l ih =>
  have h1 := h x (by simp)
  have h2 := ih fun y hy => h y (by simp [hy])
  simp only [sumI, List.length_cons]
  omega
theorem sumL_eq (t : List Int) (a b : Nat) : List.take (b + 1 - a) (List.drop a t) = (t.take (b + 1)).drop a := by
 rw [List.drop_take]
theorem sumL_bd {t : List Int} (h : Good t) (a b : Nat) : 0 ≤ sumL t a b ∧ sumL t a b ≤ 693 := by
 have h1 := sumI_bd (l := (t.take (b + 1)).drop a) fun x hx => h.bd x (List.mem_of_mem_take (List.mem_of_mem_drop hx))
 have h2 : ((t.take (b + 1)).drop a).length ≤ 7 := by
  rw [List.length_drop, List.length_take, h.len]; omega
 unfold sumL
 omega
theorem L120 {t : List Int} (h : Good t) (a b : Nat) (hab : a ≤ b) (hb : b < 7) : F120 ((t, (a : Int), (b : Int), ()) : List Int × Int × Int × Unit) = some (sumL t a b, ()) := by
 refine ghostR_eq (Ev.eq (fun _ => E120 _ _ _ _) ?_)
 rw [wrap_succ (n := b) (by omega), dec_t (show (0 : Int) ≤ (a : Int) by omega), dec_t (show (a : Int) ≤ ((b + 1 : Nat) : Int) by omega), dec_t (show ((b + 1 : Nat) : Int) ≤ 7 by omega), Int.toNat_natCast, show Int.toNat (((b + 1 : Nat) : Int) - (a : Int)) = b + 1 - a from by omega, sumL_eq]
 simp only [Bool.and_self, cond_true]
 have hbd : ∀ x ∈ (t.take (b + 1)).drop a, 0 ≤ x ∧ x ≤ 99 := fun x hx => h.bd x (List.mem_of_mem_take (List.mem_of_mem_drop hx))
 have hlen : ((t.take (b + 1)).drop a).length ≤ 7 := by
  rw [List.length_drop, List.length_take, h.len]; omega
 unfold sumL
 generalize (t.take (b + 1)).drop a = l at hbd hlen
 have key : ∀ (c i : Nat), i + c = l.length → Ev fun k => T120_0 (sumI (l.take i)) l l.length i k = some (sumI l, ()) := by
  intro c
  induction c with
  | zero =>
   intro i hi
   refine U120_0 _ _ _ _ (Ev.eq (fun _ => Q120_0 _ _ _ _ _) ?_)
   rw [dec_f (by omega), List.take_of_length_le (by omega)]
   exact Ev.all fun _ => by first | rfl | trivial
  | succ c ih =>
   intro i hi
   have hlt : i < l.length := by omega
   refine U120_0 _ _ _ _ (Ev.eq (fun _ => Q120_0 _ _ _ _ _) ?_)
   have h1 := sumI_bd (l := l.take i) fun x hx => hbd x (List.mem_of_mem_take hx)
   have h2 := hbd _ (List.getElem_mem hlt)
   have h3 : (l.take i).length ≤ 7 := by rw [List.length_take]; omega
   rw [dec_t (show (i : Int) < (l.length : Int) by omega), dec_t (show (0 : Int) ≤ (i : Int) by omega), wrap_succ (n := i) (by omega), Int.toNat_natCast, getD_lt hlt, wrap_id (by omega) (by omega)]
   have h4 : sumI (l.take i) + l[i] = sumI (l.take (i + 1)) := by
    rw [List.take_add_one, List.getElem?_eq_getElem hlt, sumI_append]
    simp [sumI]
   rw [h4]
   exact ih (i + 1) (by omega)
 exact key l.length 0 (by omega)
theorem bitsP_lt (p : Nat → Bool) : ∀ n, bitsP p n < 2 ^ n
 | 0 => by simp [bitsP]
 | n + 1 => by
  have := bitsP_lt p n
  simp only [bitsP, Nat.pow_succ]
  split <;> omega
theorem bitsP_bit (p : Nat → Bool) (i : Nat) : ∀ n, (bitsP p n).testBit i = (decide (i < n) && p i)
 | 0 => by simp [bitsP]
 | n + 1 => by
  have hlt := bitsP_lt p n
  simp only [bitsP]
  by_cases hp : p n = true
  ·rw [if_pos hp, Nat.add_comm]
   rcases Nat.lt_trichotomy i n with h | rfl | h
   ·rw [Nat.testBit_two_pow_add_gt h, bitsP_bit p i n, dec_t h, dec_t (show i < n + 1 by omega)]
   ·rw [Nat.testBit_two_pow_add_eq, Nat.testBit_lt_two_pow hlt, dec_t (show i < i + 1 by omega), hp]; rfl
   ·rw [dec_f (show ¬ i < n + 1 by omega), Bool.false_and]
    refine Nat.testBit_lt_two_pow (Nat.lt_of_lt_of_le (show 2 ^ n + bitsP p n < 2 ^ (n + 1) by rw [Nat.pow_succ]; omega) (Nat.pow_le_pow_right (by decide) (by omega)))
  ·rw [if_neg hp, Nat.add_zero, bitsP_bit p i n]
   by_cases h : i < n
   ·rw [dec_t h, dec_t (show i < n + 1 by omega)]
   ·rw [dec_f h, Bool.false_and]
    by_cases h2 : i = n
    ·subst h2
     simp [hp]
    ·rw [dec_f (show ¬ i < n + 1 by omega), Bool.false_and]
theorem bitsP_or {p : Nat → Bool} {n : Nat} (hp : p n = true) : bitsP p n ||| 2 ^ n = bitsP p (n + 1) := by
 apply Nat.eq_of_testBit_eq
 intro i
 rw [Nat.testBit_or, bitsP_bit, bitsP_bit, Nat.testBit_two_pow]
 by_cases h : n = i
 ·subst h; simp [hp]
 ·by_cases h2 : i < n
  ·rw [dec_t h2, dec_t (show i < n + 1 by omega), dec_f h, Bool.or_false]
  ·rw [dec_f h2, dec_f (show ¬ i < n + 1 by omega), dec_f h]; rfl
theorem bitsP_no {p : Nat → Bool} {n : Nat} (hp : p n = false) : bitsP p n = bitsP p (n + 1) := by simp [bitsP, hp]
theorem topsP_bit (n : Nat) (t : List Int) (i : Nat) : (topsP n t).testBit i = isTop n t i := by
 unfold topsP
 rw [bitsP_bit]
 unfold isTop
 by_cases h : i < n
 ·rw [dec_t h, Bool.true_and]
 ·rw [dec_f h, dec_f (show ¬ i + 1 < n by omega)]; simp
theorem topsP_lt (n : Nat) (t : List Int) : topsP n t < 2 ^ n := bitsP_lt _ n
theorem max_gt (a b c : Int) : decide (a > if b > c then b else c) = (decide (c < a) && decide (b < a)) := by
 rw [Bool.eq_iff_iff, Bool.and_eq_true, decide_eq_true_eq, decide_eq_true_eq, decide_eq_true_eq]
 split <;> omega
theorem L96 (s : Se) (but : Int) (t : List Int) (h3 : 3 ≤ s.1.length) (h7 : s.1.length ≤ 7) : F96 ((some ((s, but, ()) : Sb), t, ()) : Option Sb × List Int × Unit) = some ((topsP s.1.length t : Int), ()) := by
 refine ghost_eq (Ev.eq (fun _ => E96 _ _ _) ?_)
 simp only [Option.bind_some]
 have key : ∀ (c i : Nat), i + c + 1 = s.1.length → 1 ≤ i → Ev fun k => T96_0 (some ((s, but, ()) : Sb)) ((bitsP (isTop s.1.length t) i : Nat) : Int) i t k = some ((topsP s.1.length t : Int), ()) := by
  intro c
  induction c with
  | zero =>
   intro i hi h1
   refine U96_0 _ _ _ _ (Ev.eq (fun _ => Q96_0 _ _ _ _ _) ?_)
   have he : bitsP (isTop s.1.length t) i = topsP s.1.length t := by
    have h0 : bitsP (isTop s.1.length t) i = bitsP (isTop s.1.length t) s.1.length := by
     rw [← hi, Nat.add_zero]
     exact bitsP_no (by simp [isTop])
    rw [h0]; rfl
   simp only [Option.bind_some]
   rw [wrap_succ (n := i) (by omega), dec_f (show ¬ (((i + 1 : Nat) : Int) < (s.1.length : Int)) by omega), he]
   simp only [cond_false, guardP]
   rw [if_pos (show topsF (s, but, ()) t = some ((topsP s.1.length t : Nat) : Int) from rfl)]
   exact Ev.all fun _ => by first | rfl | trivial
  | succ c ih =>
   intro i hi h1
   refine U96_0 _ _ _ _ (Ev.eq (fun _ => Q96_0 _ _ _ _ _) ?_)
   have hb := bitsP_lt (isTop s.1.length t) i
   have h128 : 2 ^ i ≤ 128 := Nat.pow_le_pow_right (by decide) (show i ≤ 7 by omega)
   simp only [Option.bind_some]
   rw [wrap_succ (n := i) (by omega), wrap_pred (n := i) (by omega) h1, dec_t (show (((i + 1 : Nat) : Int) < (s.1.length : Int)) by omega), dec_t (show (0 : Int) ≤ (i : Int) by omega), dec_t (show (i : Int) < 7 by omega), Int.toNat_natCast, Int.toNat_natCast, Int.toNat_natCast,
    dec_t (show i < 7 by omega), dec_t (show (0 : Int) ≤ ((i - 1 : Nat) : Int) by omega), dec_t (show ((i - 1 : Nat) : Int) < 7 by omega), dec_t (show i - 1 < 7 by omega), dec_t (show (0 : Int) ≤ ((i + 1 : Nat) : Int) by omega), dec_t (show ((i + 1 : Nat) : Int) < 7 by omega), dec_t (show i + 1 < 7 by omega), max_gt, dec_f (show ¬ ((i : Int) < 0) by omega),
    shl_nat i (by omega), or_nat _ _ (by omega) (by omega)]
   simp only [Bool.and_self, cond_true, cond_false]
   have hn := ih (i + 1) (by omega) (by omega)
   have ht : isTop s.1.length t i = (decide (t.getD (i - 1) 0 < t.getD i 0) && decide (t.getD (i + 1) 0 < t.getD i 0)) := by
    simp only [isTop, topP, dec_t (show 0 < i by omega), dec_t (show i + 1 < s.1.length by omega), Bool.true_and]
   rw [← ht]
   cases hq : isTop s.1.length t i with
   | true => rw [bitsP_or hq]; exact hn
   | false => rw [bitsP_no hq]; exact hn
 have hrun := key (s.1.length - 2) 1 (by omega) (Nat.le_refl 1)
 have h0 : bitsP (isTop s.1.length t) 1 = 0 := by simp [bitsP, isTop]
 rw [h0] at hrun
 refine hrun.mono fun k hk => ?_
 have hk' := hk
 unfold dem
 rw [if_pos]
 ·exact hk
 ·exact hk
theorem L106 (s : Se) (but : Int) : F106 ((s, but, ()) : Se × Int × Unit) = some (some ((s, but, ()) : Sb), ()) := by
 refine ghost_eq (Ev.eq (fun _ => E106 _ _ _) ?_)
 simp only [guardP, if_true]
 exact Ev.all fun _ => by first | rfl | trivial
theorem L100 (x : Sp) (n : Int) : F100 ((x, n, ()) : Sp × Int × Unit) = some ((if n < x.1 then n else x.1, if n > x.2.1 then n else x.2.1, ()), ()) := by
 refine ghost_eq (Ev.eq (fun _ => E100 _ _ _) ?_)
 exact Ev.all fun _ => by first | rfl | trivial
theorem eqSp (a b : Sp) : eqD (Ty.struct [Ty.int IntKind.i64, Ty.int IntKind.i64]) a b = decide (a = b) := by
 obtain ⟨x, y, _⟩ := a
 obtain ⟨x', y', _⟩ := b
 simp only [eqD, eqDL, Bool.and_true]
 rw [Bool.eq_iff_iff, Bool.and_eq_true, decide_eq_true_eq]
 constructor
 ·rintro ⟨h1, h2⟩
  have e1 : x = x' := by simpa using h1
  have e2 : y = y' := by simpa using h2
  rw [e1, e2]
 ·intro h
  cases h
  exact ⟨by simp, by simp⟩
def noneP : Sp := (1099511627776, -1, ())
theorem L101 (x : Sp) : F101 ((x, ()) : Sp × Unit) = some (if x = noneP then (sp0, 9, ()) else (x, 0, ())) := by
 refine ghost_eq (Ev.eq (fun _ => E101 _ _) ?_)
 rw [eqSp]
 by_cases h : x = noneP
 ·rw [if_pos h, dec_t (show x = (1099511627776, -1, ()) from h)]; exact Ev.all fun _ => by first | rfl | trivial
 ·rw [if_neg h, dec_f (show ¬ x = (1099511627776, -1, ()) from h)]; exact Ev.all fun _ => by first | rfl | trivial
def settledP (yes all : Int) : Int := if yes = all then 1 else if yes = 0 then 2 else 0
theorem L97 (yes all : Int) : F97 ((yes, all, ()) : Int × Int × Unit) = some (settledP yes all, ()) := by
 refine ghost_eq (Ev.eq (fun _ => E97 _ _ _) ?_)
 unfold settledP
 by_cases h : yes = all
 ·rw [if_pos h, show (yes == all) = true from by simp [h]]; exact Ev.all fun _ => by first | rfl | trivial
 ·rw [if_neg h, show (yes == all) = false from by simp [h]]
  simp only [cond_false]
  by_cases h2 : yes = 0
  ·rw [if_pos h2, show (yes == 0) = true from by simp [h2]]; exact Ev.all fun _ => by first | rfl | trivial
  ·rw [if_neg h2, show (yes == 0) = false from by simp [h2]]; exact Ev.all fun _ => by first | rfl | trivial
theorem L131 (x : Int) : F131 ((x, ()) : Int × Unit) = some (false, ()) := by
 refine ghost_eq (Ev.eq (fun _ => E131 _ _) ?_)
 exact Ev.all fun _ => by simp
theorem L127 (x y : Int) : F127 ((x, y, ()) : Int × Int × Unit) = some (Few.cmp1 x y, ()) := by
 refine ghost_eq (Ev.eq (fun _ => E127 _ _ _) ?_)
 rw [L131, L131]
 unfold Few.cmp1
 simp only [Option.bind_some, cond_false]
 by_cases h1 : x < y
 ·rw [dec_t h1, if_pos h1]
  exact Ev.all fun _ => by first | rfl | trivial
 ·rw [dec_f h1, if_neg h1]
  simp only [cond_false]
  by_cases h2 : x > y
  ·rw [dec_t h2, if_pos h2]
   exact Ev.all fun _ => by first | rfl | trivial
  ·rw [dec_f h2, if_neg h2]
   exact Ev.all fun _ => by first | rfl | trivial
theorem L105 (l p : List Int) (hl : l.length < 1000000000) : F105 ((l, p, ()) : List Int × List Int × Unit) = some (Few.cmpL l p, ()) := by
 refine ghost_eq (Ev.eq (fun _ => E105 _ _ _) ?_)
 have key : ∀ (c i : Nat), i + c = l.length → Few.cmpL (l.drop i) (p.drop i) = Few.cmpL l p → i ≤ p.length → Ev fun k => T105_0 l p l l.length i k = some (Few.cmpL l p, ()) := by
  intro c
  induction c with
  | zero =>
   intro i hi he hp
   refine U105_0 _ _ _ _ _ (Ev.eq (fun _ => Q105_0 _ _ _ _ _ _) ?_)
   rw [dec_f (show ¬ ((i : Int) < (l.length : Int)) by omega), ← he, List.drop_eq_nil_of_le (show l.length ≤ i by omega)]
   simp only [cond_false]
   by_cases h : (l.length : Int) < (p.length : Int)
   ·rw [dec_t h, List.drop_eq_getElem_cons (show i < p.length by omega)]
    exact Ev.all fun _ => by first | rfl | trivial
   ·rw [dec_f h, List.drop_eq_nil_of_le (by omega)]
    exact Ev.all fun _ => by first | rfl | trivial
  | succ c ih =>
   intro i hi he hp
   refine U105_0 _ _ _ _ _ (Ev.eq (fun _ => Q105_0 _ _ _ _ _ _) ?_)
   have hlt : i < l.length := by omega
   rw [dec_t (show (i : Int) < (l.length : Int) by omega), dec_t (show (0 : Int) ≤ (i : Int) by omega), wrap_succ (n := i) (by omega), Int.toNat_natCast, getD_lt hlt]
   simp only [Bool.and_self, cond_true, Bool.true_and]
   rw [List.drop_eq_getElem_cons hlt] at he
   by_cases h : i < p.length
   ·rw [dec_f (show ¬ ((i : Int) ≥ (p.length : Int)) by omega), dec_t (show (i : Int) < (p.length : Int) by omega), getD_lt h, L127]
    rw [List.drop_eq_getElem_cons h, Few.cmpL] at he
    simp only [cond_true, cond_false, Option.bind_some]
    by_cases hc : Few.cmp1 l[i] p[i] = 0
    ·rw [if_neg (fun h => h hc)] at he
     rw [hc]
     exact ih (i + 1) (by omega) he (by omega)
    ·rw [if_pos hc] at he
     rw [bne_iff_ne.2 hc, ← he]
     exact Ev.all fun _ => by first | rfl | trivial
   ·rw [dec_t (show (i : Int) ≥ (p.length : Int) by omega), ← he, List.drop_eq_nil_of_le (show p.length ≤ i by omega)]
    exact Ev.all fun _ => by first | rfl | trivial
 exact key l.length 0 (by omega) rfl (Nat.zero_le _)
end Go.Proofs.YtkbephbhajplhaaDoor
