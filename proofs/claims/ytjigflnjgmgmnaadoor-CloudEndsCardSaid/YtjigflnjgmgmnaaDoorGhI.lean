/- Lists of numbers, by how many and then in order: the first one of which something is so. Conditions: none (lemmas alone). -/

namespace Go.Few
def cmp1 (a b : Int) : Int := if a < b then -1 else if a > b then 1 else 0
def cmpL : List Int → List Int → Int
 | [], [] => 0
 | [], _ :: _ => -1
 | _ :: _, [] => 1
 | a :: r, b :: q => if cmp1 a b ≠ 0 then cmp1 a b else cmpL r q
def lex : List Int → List Int → Prop
 | a :: r, b :: q => a < b ∨ a = b ∧ lex r q
 | _, _ => False
theorem lex_tri : ∀ {l p : List Int}, l.length = p.length → l = p ∨ lex l p ∨ lex p l
 | [], [], _ => .inl rfl
 | [], _ :: _, h => by simp at h
 | _ :: _, [], h => by simp at h
 | a :: l, b :: p, h => by
  have hl : l.length = p.length := by simpa using h
  rcases Int.lt_trichotomy a b with h1 | h1 | h1
  ·exact .inr (.inl (.inl h1))
  ·subst h1
   rcases lex_tri hl with h2 | h2 | h2
   ·exact .inl (by rw [h2])
   ·exact .inr (.inl (.inr ⟨rfl, h2⟩))
   ·exact .inr (.inr (.inr ⟨rfl, h2⟩))
  ·exact .inr (.inr (.inl h1))
def fewer (l p : List Int) : Prop := l.length < p.length ∨ l.length = p.length ∧ lex l p
theorem fewer_tri (l p : List Int) : l = p ∨ fewer l p ∨ fewer p l := by
 rcases Nat.lt_trichotomy l.length p.length with h | h | h
 ·exact .inr (.inl (.inl h))
 ·rcases lex_tri h with h1 | h1 | h1
  ·exact .inl h1
  ·exact .inr (.inl (.inr ⟨h, h1⟩))
  ·exact .inr (.inr (.inr ⟨h.symm, h1⟩))
 ·exact .inr (.inr (.inl h))
def worse (l best : List Int) : Bool := decide (l.length > best.length) || (l.length == best.length && decide (cmpL l best > 0))
structure Best (P : List Int → Prop) (r : List Int) : Prop where
 is : P r
 first : ∀ q, P q → ¬ fewer q r
theorem Best.one {P : List Int → Prop} {r q : List Int} (h : Best P r) (h' : Best P q) : r = q := by
 rcases fewer_tri r q with e | e | e
 ·exact e
 ·exact absurd e (h'.first r h.is)
 ·exact absurd e (h.first q h'.is)
theorem Best.iff {P Q : List Int → Prop} {r : List Int} (h : Best P r) (e : ∀ l, P l ↔ Q l) : Best Q r := ⟨(e r).1 h.is, fun q hq => h.first q ((e q).2 hq)⟩
def firstOf (i : Nat) (o : List Int) : Int := if 0 < i then o.getD (i - 1) 0 + 1 else 0
structure Rise (b : Int) (m : Nat) (l : List Int) : Prop where
 len : l.length = m
 pair : l.Pairwise (· < ·)
 in_ : ∀ x ∈ l, 0 ≤ x ∧ x < b
theorem Rise.split {b : Int} {m : Nat} {l : List Int} (h : Rise b (m + 1) l) : ∃ o n, l = o ++ [n] ∧ Rise b m o ∧ firstOf m o ≤ n ∧ n < b := by
 have hne : l ≠ [] := fun e => by have := h.len; rw [e] at this; simp at this
 have he := List.dropLast_concat_getLast hne
 generalize l.dropLast = o at he
 generalize l.getLast hne = n at he
 subst he
 have hlen : o.length = m := by have := h.len; simpa using this
 have hp := List.pairwise_append.1 h.pair
 refine ⟨o, n, rfl, ⟨hlen, hp.1, fun x hx => h.in_ x (List.mem_append_left _ hx)⟩, ?_, (h.in_ n (by simp)).2⟩
 unfold firstOf
 split
 ·have hg : o.getD (m - 1) 0 = o[m - 1]'(by omega) := by rw [List.getD_eq_getElem?_getD, List.getElem?_eq_getElem (by omega)]; rfl
  rw [hg]
  have := hp.2.2 _ (List.getElem_mem (show m - 1 < o.length by omega)) n (by simp)
  omega
 ·exact (h.in_ n (by simp)).1
def pick (hs : List Int) (l : List Int) : List Int := l.map fun i => hs.getD i.toNat 0
theorem bits_fold : ∀ (l : List Int) (n i : Nat), (l.foldl (fun n x => n ||| 2 ^ x.toNat) n).testBit i = (n.testBit i || l.any fun x => decide (x.toNat = i))
 | [], n, i => by simp
 | x :: l, n, i => by
  rw [List.foldl_cons, bits_fold l, Nat.testBit_or, Nat.testBit_two_pow, List.any_cons, Bool.or_assoc]
end Go.Few
