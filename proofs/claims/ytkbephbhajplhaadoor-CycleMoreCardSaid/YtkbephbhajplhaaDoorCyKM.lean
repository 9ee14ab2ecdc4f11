/- The context for CycleMore is the program's; how long a list of sums is. Conditions: as each lemma states. -/
import Derived.Test.YtkbephbhajplhaaDoorCyKH
import Derived.Test.YtkbephbhajplhaaDoorCyLk
import Derived.Test.YtkbephbhajplhaaDoorCyCard
import Derived.Test.YtkbephbhajplhaaDoorGhG
import Derived.JoinedCond
import Derived.ChangeSame
import Derived.Deep.Slices
namespace Go.Proofs.YtkbephbhajplhaaDoor
open Go Go.Gh Go.ChangeShapes Go.WideShapes Go.ChangeAt Go.RowKit
theorem okM : CtxOK' cxM := CtxOK'.setBig ok58 _
section
variable {H : Type} {enc : TypeId × Value → H}
theorem law_contract3 {cx : Ctx} {f : FuncId} {fn : Func} {ts : List Ty} {F : denL ts → Option (denL [.bool])} (hcon : ConOK cx f ⟨ts, [.bool], F⟩) (hl : laidOutB cx.P = true)
  {s : ChangeSpec} {apart fresh handsOn again : Bool} {B : TypeId} (hty : tysOK cx.P ts fn.params.toList = true) (hres : fn.resultTypes = #[B]) (hB : cx.P.underlying B = some .bool)
  (hs : ∀ ds : List (DataW H), ds.length = ts.length → (s.fn H ds).results = [.lit (.bool true)] ∧ (s.fn H ds).args = ds ∧ (s.fn H ds).vars = []) (hvars : s.vars = [])
    {W : World} {base : Nat} {args : Array Value} {ds gs : List (DataW H)} {before : List MemPlace}
  (hval : ∀ (j : Nat) t v, fn.params[j]? = some t → args[j]? = some v → Value.okWide cx.P W .any base t v)
  (hW : DataW.Whole enc cx.P fn.params.toList s.vars apart W args.toList ds gs before) (hglob : GlobOK cx (calm W))
  (hF : ∀ x p, wfDL ts x → EVL (calm W) ts x args.toList → DataW.TrodAll enc cx.P W 0 (fun _ => true) true fn.params.toList args.toList ds p → F x = some (true, ())) :
  Calls cx.P f args W fun e W' => ∃ v, e = .returned v ∧ s.post enc cx.P fn apart fresh handsOn again W args v W' := by
 have hW' := hW
 obtain ⟨p, q, hA, hV, rfl, hfz, hnd⟩ := hW
 obtain ⟨x, hx, hw, hlen⟩ := all_EVL hty (fun j t v h1 h2 => hval j t v (by simpa using h1) (by simpa using h2)) hA
 rw [hvars] at hV
 obtain ⟨rfl, rfl⟩ := trodVars_none hV
 simp only [List.append_nil] at hW' hfz hnd
 have hc := hcon (calm W) x (true, ()) args.toList (hF x _ hw hx hA) hx (fun _ _ h => h.elim) (fun _ _ h => by cases h) hglob (fun _ _ _ _ h => by cases h)
 simp only [Array.toArray_toList] at hc
 refine hc.mono fun e W' ⟨v, M', he, hr, hext, _, _, _⟩ => ?_
 subst he
 have hb := below_of_ext hext
 obtain ⟨hs1, hs2, hs3⟩ := hs ds hlen
 have hlt := hW'.lt
 have hv : v = .bool true := by
  obtain ⟨vs, h1, h2⟩ := hr
  unfold EVL at h1
  obtain ⟨u, us, rfl, ⟨cs, he, ho⟩, h4⟩ := h1
  unfold EVL at h4
  subst h4
  unfold Enc at he
  subst he
  have : u = .bool true := by
   have := ho
   simp [ofCells, Ty.isAgg] at this
   exact this.symm
  subst this
  simpa using h2
 subst hv
 refine ⟨_, rfl, post_below (pa := p) (pv := []) hW' (fun b sp hd => ?_) (fun sp hsp => ?_) (fun sp hsp => ?_) (by simp) hb ?_⟩
 ·rw [hres, List.append_nil, hs1]
  exact ⟨[], [], shut_bool hB _, rfl, rfl⟩
 ·rw [List.append_nil, hs2]
  exact all_stay hl hb hty hA hlt sp hsp
 ·rw [List.append_nil, hvars, hs3]
  exact rfl
 ·exact ok_one hres rfl (okWide_bool_mk hB _)
end
theorem se_ty : ∃ f0 f1 f2 : Field, Tryd.prog.underlying 27 = some (.struct #[f0, f1, f2]) ∧ f1.offset = 1 ∧ f1.type = 23 ∧ Tryd.prog.cellsOf f1.type = 1 ∧ Tryd.prog.underlying 23 = some (.slice 74) ∧ Tryd.prog.bytesOf 74 = 32 :=
 ⟨{ name := "Years", type := 22, offset := 0, embedded := false, tag := "", pkgPath := "", byteOffset := 0 }, { name := "Sums", type := 23, offset := 1, embedded := false, tag := "", pkgPath := "", byteOffset := 24 }, { name := "Gap", type := 25, offset := 2, embedded := false, tag := "", pkgPath := "", byteOffset := 48 }, by kernel_rfl, rfl, rfl, by kernel_rfl, by kernel_rfl, by kernel_rfl⟩
theorem sums_weight {H : Type} {enc : TypeId × Value → H} {W : World} {base : Nat} {spare : Nat → Bool} {held : Bool} {vs : List Value} {ds gs : List (DataW H)} {p : List MemPlace} {ts : List Ty} {r : List TypeId} {x : denL (tSe :: ts)}
  (hA : DataW.TrodAll enc Tryd.prog W base spare held (27 :: r) vs ds p) (hx : EVL (calm W) (tSe :: ts) x vs) (hw : (DataW.weightsEach Tryd.prog (27 :: r) (ds ++ gs)).all (· ≤ reachBytes) = true) : List.length x.1.2.1 < 4398046511104 := by
 obtain ⟨v, vs', d, ds', p1, q1, rfl, rfl, rfl, ⟨fuel, h0⟩, _⟩ := trodAll_cons hA
 unfold EVL at hx
 obtain ⟨u, us, he, ⟨cs, h1, h2⟩, _⟩ := hx
 obtain ⟨rfl, _⟩ := List.cons.inj he
 have hcs : v.cells.toList = cs := by
  simp only [ofCells, Ty.isAgg] at h2
  obtain rfl := h2
  simp [Value.cells]
 rw [hcs] at h0
 unfold Enc EncL at h1
 obtain ⟨c1, c2, rfl, h3, h4⟩ := h1
 unfold EncL at h4
 obtain ⟨c3, c4, rfl, h5, _⟩ := h4
 unfold Enc at h3 h5
 obtain ⟨a1, cap1, rfl, _, _⟩ := h3
 obtain ⟨a, cap, rfl, _, _⟩ := h5
 obtain ⟨f0, f1, f2, hu, ho, ht, hc, hs, hb⟩ := se_ty
 obtain ⟨xs, n, _, hd, _, hlen, hf⟩ := DataW.trod_struct hu h0
 have hd : d = .agg (xs.map (·.1)) := congrArg Prod.fst hd
 obtain ⟨y0, y1, y2, rfl⟩ : ∃ y0 y1 y2, xs = [y0, y1, y2] := by
  match xs, hlen with
  | [a, b, c], _ => exact ⟨a, b, c, rfl⟩
 have h6 := hf 1 f1 rfl
 rw [ho, hc, ht] at h6
 simp only [List.cons_append, List.nil_append, List.drop_succ_cons, List.drop_zero, List.take_succ_cons, List.take_zero, List.getElem?_cons_succ, List.getElem?_cons_zero] at h6
 rcases Deep.open_slice hs h6 with ⟨h7, _⟩ | ⟨a', len, cap', m, n', D, Pl, h7, _, _, _, _, h8, _⟩
 ·have := (List.cons.inj h7).1
  simp only [Value.slice.injEq] at this
  omega
 ·have h9 := (List.cons.inj h7).1
  simp only [Value.slice.injEq] at h9
  have h10 : y1.1 = .slice ((List.range len).map D) ((List.range (m - len)).map fun j => D (len + j)) := congrArg Prod.fst h8
  rw [hd] at hw
  simp only [List.cons_append, DataW.weightsEach, DataW.weights, hu, List.map_cons, List.map_nil, ht, h10, hs, hb, List.all_append, Bool.and_eq_true] at hw
  have h11 := hw.1.2
  simp only [List.all_cons, Bool.and_eq_true, List.length_map, List.length_range, reachBytes] at h11
  have h12 := of_decide_eq_true h11.1
  omega
end Go.Proofs.YtkbephbhajplhaaDoor
