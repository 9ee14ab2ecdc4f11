/- RowTwice returns true for every input, and leaves it as it was. Conditions: none beyond the row's own. -/
import Derived.Test.YtallblpnlefpeaaRoG
import Derived.Test.YtallblpnlefpeaaRoL16
import Derived.Test.YtallblpnlefpeaaGhG
import Derived.HandedShaped
import Derived.Deep.Slices
namespace Go.Proofs.Ytallblpnlefpeaa
open Go Go.Gh Go.ChangeShapes Go.WideShapes Go.ChangeAt Go.RowKit
theorem okM : CtxOK' cxM := CtxOK'.setBig ok49 _
theorem bk_ty : ∃ f0 f1 : Field, Try.prog.underlying 25 = some (.struct #[f0, f1]) ∧ f0.offset = 0 ∧ f0.type = 22 ∧ Try.prog.cellsOf f0.type = 1 ∧ Try.prog.underlying 22 = some (.slice 45) ∧ Try.prog.bytesOf 45 = 16 :=
 ⟨{ name := "Rows", type := 22, offset := 0, embedded := false, tag := "", pkgPath := "", byteOffset := 0 }, { name := "Numbers", type := 23, offset := 1, embedded := false, tag := "", pkgPath := "", byteOffset := 24 }, by kernel_rfl, rfl, rfl, by kernel_rfl, by kernel_rfl, by kernel_rfl⟩
theorem rows_weight {H : Type} {enc : TypeId × Value → H} {W : World} {base : Nat} {spare : Nat → Bool} {held : Bool} {vs : List Value} {ds gs : List (DataW H)} {p : List MemPlace} {ts : List Ty} {r : List TypeId} {x : denL (tyB :: ts)}
  (hA : DataW.TrodAll enc Try.prog W base spare held (25 :: r) vs ds p) (hx : EVL (calm W) (tyB :: ts) x vs) (hw : (DataW.weightsEach Try.prog (25 :: r) (ds ++ gs)).all (· ≤ reachBytes) = true) : List.length x.1.1 * 16 ≤ 140737488351232 := by
 obtain ⟨v, vs', d, ds', p1, q1, rfl, rfl, rfl, ⟨fuel, h0⟩, _⟩ := trodAll_cons hA
 unfold EVL at hx
 obtain ⟨u, us, he, ⟨cs, h1, h2⟩, _⟩ := hx
 obtain ⟨rfl, _⟩ := List.cons.inj he
 have hcs : v.cells.toList = cs := by
  simp only [ofCells, Ty.isAgg] at h2
  obtain rfl := h2
  simp [Value.cells]
 rw [hcs] at h0
 unfold Enc EncL at h1
 obtain ⟨c1, c2, rfl, h3, _⟩ := h1
 unfold Enc at h3
 obtain ⟨a, cap, rfl, _, _⟩ := h3
 obtain ⟨f0, f1, hu, ho, ht, hc, hs, hb⟩ := bk_ty
 obtain ⟨xs, n, _, hd, _, hlen, hf⟩ := DataW.trod_struct hu h0
 have hd : d = .agg (xs.map (·.1)) := congrArg Prod.fst hd
 obtain ⟨y0, y1, rfl⟩ : ∃ y0 y1, xs = [y0, y1] := by
  match xs, hlen with
  | [a, b], _ => exact ⟨a, b, rfl⟩
 have g0 := hf 0 f0 rfl
 rw [ho, hc, ht] at g0
 rw [hd] at hw
 simp only [List.cons_append, List.nil_append, List.drop_zero, List.take_succ_cons, List.take_zero, List.getElem?_cons_zero] at g0
 simp only [List.cons_append, DataW.weightsEach, DataW.weights, hu, List.map_cons, List.map_nil, ht, List.all_append, Bool.and_eq_true] at hw
 rcases Deep.open_slice hs g0 with ⟨e7, _⟩ | ⟨a', len, cap', m, n', D, Pl, e7, _, _, _, _, e8, _⟩
 ·have := (List.cons.inj e7).1
  simp only [Value.slice.injEq] at this
  omega
 ·have e9 := (List.cons.inj e7).1
  simp only [Value.slice.injEq] at e9
  have h10 : y0.1 = .slice ((List.range len).map D) ((List.range (m - len)).map fun j => D (len + j)) := congrArg Prod.fst e8
  simp only [h10, DataW.weights, hs, hb, List.all_append, List.all_cons, Bool.and_eq_true, List.length_map, List.length_range, reachBytes] at hw
  have h11 := of_decide_eq_true hw.1.1.1
  omega
theorem rowTwice_con : ConOK cxM 16 ⟨[tyB], [.bool], F16⟩ := ghost_ok okM S16 6000 16 _ _
set_option maxRecDepth 100000 in
theorem rowTwice_lifted (os : Os) (started : os.Started) (H : Type) (enc : TypeId × Value → H) :
  ReturnsInHanded {} Try.checked os 16 .any (Rows.rowTwiceSpec.pre6 enc Try.prog Try.f16 Rows.rowTwiceRow.domain false)
   (Rows.rowTwiceSpec.post enc Try.prog Try.f16 false true false false) := by
 refine returnsInHanded_of_change_shaped (C := Try.checked) own1 started (by kernel_rfl) Try.func16
  (ChangeSpec.witness6 (enc := enc) (C := Try.checked) false ⟨#[], #[.agg #[.slice none 0 0, .slice none 0 0]], []⟩ 8 (by kernel_rfl) (by kernel_rfl) (by kernel_rfl) (by kernel_rfl)) ?_
 intro W base args ds gs before hval hW _ hwt _ _
 exact law_contract3 rowTwice_con laidOut1 (B := 4) (by kernel_rfl) (by kernel_rfl) (by kernel_rfl) (fun ds hds => by
  match ds, hds with
  | [d], _ => exact ⟨rfl, rfl, rfl⟩) rfl hval hW (glob_ok W rfl) (fun x p hw hx hA => L16 x.1 (rows_weight hA hx hwt))
theorem rowTwice_holds : Rows.RowTwiceSaid :=
 OpenClaim.holds_of_wide 16 Try.f16 rfl rfl rfl rfl rfl rfl rfl ⟨rfl, rfl, rfl, rfl, rfl⟩ rfl rfl rfl rfl rfl (by kernel_rfl) Try.func16 (by kernel_rfl)
  (of_decide_eq_true (by kernel_rfl)) (by unfold Func.isWrapper; first | (rw [if_pos (by decide +kernel)]; kernel_rfl) | (rw [if_neg (by decide +kernel)]; exact ⟨rfl, rfl⟩))
  (fun os started H enc _ => by
    rw [OpenClaim.pre_of_none rfl]
    exact rowTwice_lifted os started H enc)
#print axioms rowTwice_holds
end Go.Proofs.Ytallblpnlefpeaa
