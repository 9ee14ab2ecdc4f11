/- The context for laws 12, 14, 16: appends to lists that may be as long as memory lets them be. Conditions: none. -/
import Derived.Test.YtkhhbpocmmmnmaaTuH
import Derived.Test.YtkhhbpocmmmnmaaTuK
import Derived.Test.YtkhhbpocmmmnmaaGhG
import Derived.HandedShaped
import Derived.Deep.Slices
namespace Go.Proofs.Ytkhhbpocmmmnmaa
open Go Go.Gh Go.Proofs
noncomputable def cxM : Ctx := { cx41 with big := fun n => Nat.beq n 120024 || Nat.beq n 120027 || Nat.beq n 140031 || Nat.beq n 160015 || Nat.beq n 160018 }
end Go.Proofs.Ytkhhbpocmmmnmaa
/- The context for laws 12, 14, 16 is the program's; how long a sun's lists are. Conditions: as each lemma states. -/
namespace Go.Proofs.Ytkhhbpocmmmnmaa
open Go Go.Gh Go.ChangeShapes Go.WideShapes Go.ChangeAt Go.RowKit
theorem okM : CtxOK' cxM := CtxOK'.setBig ok41 _
theorem su_ty : ∃ f0 f1 f2 f3 : Field, Try.prog.underlying 26 = some (.struct #[f0, f1, f2, f3]) ∧ (f2.offset = 2 ∧ f2.type = 23 ∧ Try.prog.cellsOf f2.type = 1 ∧ Try.prog.underlying 23 = some (.slice 62) ∧ Try.prog.bytesOf 62 = 24) ∧ f3.offset = 3 ∧ f3.type = 24 ∧ Try.prog.cellsOf f3.type = 1 ∧ Try.prog.underlying 24 = some (.slice 50) ∧ Try.prog.bytesOf 50 = 24 :=
 ⟨{ name := "Belts", type := 22, offset := 0, embedded := false, tag := "", pkgPath := "", byteOffset := 0 }, { name := "Off", type := 3, offset := 1, embedded := false, tag := "", pkgPath := "", byteOffset := 24 }, { name := "Seen", type := 23, offset := 2, embedded := false, tag := "", pkgPath := "", byteOffset := 32 }, { name := "Told", type := 24, offset := 3, embedded := false, tag := "", pkgPath := "", byteOffset := 56 }, by kernel_rfl, ⟨rfl, rfl, by kernel_rfl, by kernel_rfl, by kernel_rfl⟩, rfl, rfl, by kernel_rfl, by kernel_rfl, by kernel_rfl⟩
theorem su_weight {H : Type} {enc : TypeId × Value → H} {W : World} {base : Nat} {spare : Nat → Bool} {held : Bool} {vs : List Value} {ds gs : List (DataW H)} {p : List MemPlace} {ts : List Ty} {r : List TypeId} {x : denL (tSu :: ts)}
  (hA : DataW.TrodAll enc Try.prog W base spare held (26 :: r) vs ds p) (hx : EVL (calm W) (tSu :: ts) x vs) (hw : (DataW.weightsEach Try.prog (26 :: r) (ds ++ gs)).all (· ≤ reachBytes) = true) : x.1.2.2.1.length * 24 ≤ 140737488351232 ∧ x.1.2.2.2.1.length * 24 ≤ 140737488351232 := by
 obtain ⟨v, vs', d, ds', p1, q1, rfl, rfl, rfl, ⟨fuel, h0⟩, _⟩ := trodAll_cons hA
 unfold EVL at hx
 obtain ⟨u, us, he, ⟨cs, h1, h2⟩, _⟩ := hx
 obtain ⟨rfl, _⟩ := List.cons.inj he
 have hcs : v.cells.toList = cs := by
  simp only [ofCells, Ty.isAgg] at h2
  obtain rfl := h2
  simp [Value.cells]
 rw [hcs] at h0
 unfold Enc EncL at h1
 obtain ⟨c1, c2, rfl, h3, h4⟩ := h1
 unfold EncL at h4
 obtain ⟨c3, c4, rfl, h5, h6⟩ := h4
 unfold EncL at h6
 obtain ⟨c5, c6, rfl, h7, h8⟩ := h6
 unfold EncL at h8
 obtain ⟨c7, c8, rfl, h9, _⟩ := h8
 unfold Enc at h3 h5 h7 h9
 obtain ⟨a1, cap1, rfl, _, _⟩ := h3
 subst h5
 obtain ⟨a2, cap2, rfl, _, _⟩ := h7
 obtain ⟨a3, cap3, rfl, _, _⟩ := h9
 obtain ⟨f0, f1, f2, f3, hu, ⟨ho, ht, hc, hs, hb⟩, ho3, ht3, hc3, hs3, hb3⟩ := su_ty
 obtain ⟨xs, n, _, hd, _, hlen, hf⟩ := DataW.trod_struct hu h0
 have hd : d = .agg (xs.map (·.1)) := congrArg Prod.fst hd
 obtain ⟨y0, y1, y2, y3, rfl⟩ : ∃ y0 y1 y2 y3, xs = [y0, y1, y2, y3] := by
  match xs, hlen with
  | [a, b, c, d], _ => exact ⟨a, b, c, d, rfl⟩
 have g2 := hf 2 f2 rfl
 have g3 := hf 3 f3 rfl
 rw [ho, hc, ht] at g2
 rw [ho3, hc3, ht3] at g3
 rw [hd] at hw
 simp only [List.cons_append, List.nil_append, List.drop_succ_cons, List.drop_zero, List.take_succ_cons, List.take_zero, List.getElem?_cons_succ, List.getElem?_cons_zero] at g2 g3
 simp only [List.cons_append, DataW.weightsEach, DataW.weights, hu, List.map_cons, List.map_nil, ht, ht3, List.all_append, Bool.and_eq_true] at hw
 constructor
 ·rcases Deep.open_slice hs g2 with ⟨e7, _⟩ | ⟨a', len, cap', m, n', D, Pl, e7, _, _, _, _, e8, _⟩
  ·have := (List.cons.inj e7).1
   simp only [Value.slice.injEq] at this
   omega
  ·have e9 := (List.cons.inj e7).1
   simp only [Value.slice.injEq] at e9
   have h10 : y2.1 = .slice ((List.range len).map D) ((List.range (m - len)).map fun j => D (len + j)) := congrArg Prod.fst e8
   simp only [h10, DataW.weights, hs, hb, List.all_append, List.all_cons, Bool.and_eq_true, List.length_map, List.length_range, reachBytes] at hw
   have h11 := of_decide_eq_true hw.1.2.2.1.1
   omega
 ·rcases Deep.open_slice hs3 g3 with ⟨e7, _⟩ | ⟨a', len, cap', m, n', D, Pl, e7, _, _, _, _, e8, _⟩
  ·have := (List.cons.inj e7).1
   simp only [Value.slice.injEq] at this
   omega
  ·have e9 := (List.cons.inj e7).1
   simp only [Value.slice.injEq] at e9
   have h10 : y3.1 = .slice ((List.range len).map D) ((List.range (m - len)).map fun j => D (len + j)) := congrArg Prod.fst e8
   simp only [h10, DataW.weights, hs3, hb3, List.all_append, List.all_cons, Bool.and_eq_true, List.length_map, List.length_range, reachBytes] at hw
   have h11 := of_decide_eq_true hw.1.2.2.2.1.1
   omega
end Go.Proofs.Ytkhhbpocmmmnmaa
