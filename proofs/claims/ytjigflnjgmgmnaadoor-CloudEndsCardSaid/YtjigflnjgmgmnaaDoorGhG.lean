/- The ghost machine: at a cut a configuration is told anew. Conditions: none (lemmas alone). -/
import Derived.Test.YtjigflnjgmgmnaaDoorGhB
import Derived.Test.YtjigflnjgmgmnaaDoorGhF
import Derived.KernelRfl
import Derived.Laws.StructEq
namespace Go.Gh
structure Refit (E E' : Env) : Prop where
 le : E.m.le E'.m
 lent : LentOK E
 blk : ∀ id b', hlook E'.H id = some b' → (∃ b, hlook E.H id = some b ∧ skB b' = skB b ∧ E'.ρ id = E.ρ id ∧ ∀ t xs l, b' = .row t xs l → ∃ l0, b = .row t xs l0) ∨
  (hlook E.H id = none ∧ E'.ρ id = none ∧ ∃ t l, b' = .row t [] l)
section
variable {E E' : Env}
theorem decS_agg {H : Heap} {s : Sh} {a : AV} {x : denS s} (h : decS H s a = some x) : (fillS s x).isAgg = a.isAgg ∧ skA a ≠ .bad := by
 cases s with
 | dat t => simp only [decS] at h; obtain ⟨h1, h2⟩ := toDat_isAgg h; exact ⟨h1, h2⟩
 | any =>
  simp only [decS] at h
  split at h
  ·rename_i he
   have hs := eqSk_eq he
   refine ⟨?_, by rw [hs]; simp⟩
   cases a with
   | dat t y => cases t <;> first | rfl | (simp [skA, skT] at hs)
   | agg fs => simp [skA] at hs
   | arrL fs => simp [skA] at hs
   | _ => rfl
  ·cases h
 | _ => cases a <;> first | (simp [decS] at h; done) | (refine ⟨rfl, ?_⟩; simp [skA])
theorem cc_one {E : Env} {a : AV} {cs : List Value} (hc : CC E a cs) (h : skA a = .one) : ∃ v, cs = [v] ∧ one v = true := by
 have h1 := CC.len a hc
 rw [cells, h, sizeK] at h1
 match cs, h1 with
 | [v], _ => exact ⟨v, rfl, CC.one a hc v (by simp)⟩
mutual
theorem decS_cc (hR : Refit E E') : (s : Sh) → ∀ {a : AV} {x : denS s} {cs : List Value}, CC E a cs → decS E.H s a = some x → CC E' (fillS s x) cs
 | .dat t, a, x, cs, hc, h => by
  simp only [decS] at h
  have := toDat_spec hR.lent t a hc h
  simp only [fillS]
  unfold CC
  exact Enc.mono hR.le t this
 | .hp i t, a, x, cs, hc, h => by
  cases a with
  | hp j u y =>
   simp only [decS] at h
   split at h
   ·rename_i e
    subst e
    obtain ⟨rfl, rfl⟩ := castT_spec h
    simp only [fillS]
    unfold CC at hc ⊢
    exact Enc.mono hR.le _ hc
   ·cases h
  | _ => simp [decS] at h
 | .agg ss, a, x, cs, hc, h => by
  cases a with
  | agg as =>
   simp only [decS] at h
   simp only [fillS]
   unfold CC at hc ⊢
   exact decL_cc hR ss hc h
  | _ => simp [decS] at h
 | .arrL ss, a, x, cs, hc, h => by
  cases a with
  | arrL as =>
   simp only [decS] at h
   simp only [fillS]
   unfold CC at hc ⊢
   exact decL_cc hR ss hc h
  | _ => simp [decS] at h
 | .ptr id p, a, x, cs, hc, h => by
  cases a with
  | ptr id' p' =>
   simp only [decS] at h
   split at h
   ·rename_i e
    obtain ⟨rfl, rfl, hsome⟩ := e
    simp only [fillS]
    unfold CC at hc ⊢
    obtain ⟨v, h1, h2, h3⟩ := hc
    refine ⟨v, h1, h2, fun b' hb' => ?_⟩
    rcases hR.blk _ _ hb' with ⟨b, h4, h5, h6, _⟩ | ⟨h4, _⟩
    ·obtain ⟨k, h7, h8⟩ := h3 b h4
     exact ⟨k, by rw [h6, h7], by rw [h5, h8]⟩
    ·rw [h4] at hsome; cases hsome
   ·cases h
  | _ => simp [decS] at h
 | .row id, a, x, cs, hc, h => by
  cases a with
  | row id' =>
   simp only [decS] at h
   split at h
   ·rename_i e
    obtain ⟨rfl, hsome⟩ := e
    simp only [fillS]
    unfold CC at hc ⊢
    obtain ⟨v, h1, h2, h3⟩ := hc
    refine ⟨v, h1, h2, fun t xs l hb' => ?_⟩
    rcases hR.blk _ _ hb' with ⟨b, h4, h5, h6, h7⟩ | ⟨h4, _⟩
    ·obtain ⟨l0, h8⟩ := h7 t xs l rfl
     rw [h8] at h4
     rcases h3 _ _ _ h4 with ⟨h9, h10, h11⟩ | ⟨k, cap, e, h9, h10, h11, h12⟩
     ·exact .inl ⟨by rw [h6, h9], h10, h11⟩
     ·exact .inr ⟨k, cap, e, by rw [h6, h9], h10, h11, hR.le.shape _ _ h12⟩
    ·rw [h4] at hsome; cases hsome
   ·cases h
  | nilsl =>
   simp only [decS] at h
   split at h
   ·rename_i e
    simp only [fillS]
    unfold CC at hc ⊢
    obtain ⟨p, rfl⟩ := hc
    refine ⟨_, rfl, rfl, fun t xs l hb' => ?_⟩
    rcases hR.blk _ _ hb' with ⟨b, h4, _⟩ | ⟨_, h5, t', l', h6⟩
    ·rw [h4] at e; cases e
    ·cases h6
     exact .inl ⟨h5, rfl, p, rfl⟩
   ·cases h
  | _ => simp [decS] at h
 | .sub id, a, x, cs, hc, h => by
  cases a with
  | sub id' lo len =>
   simp only [decS] at h
   split at h
   ·rename_i e
    obtain ⟨rfl, hsome⟩ := e
    cases h
    simp only [fillS]
    unfold CC at hc ⊢
    obtain ⟨v, h1, h2, h3, h3'⟩ := hc
    refine ⟨v, h1, h2, fun t xs l hb' => ?_, fun b' f n s hb' hsk hn => ?_⟩
    ·rcases hR.blk _ _ hb' with ⟨b, h4, h5, h6, h7⟩ | ⟨h4, _⟩
     ·obtain ⟨l0, h8⟩ := h7 t xs l rfl
      rw [h8] at h4
      obtain ⟨g1, a, cap, g2, g3, g4⟩ := h3 _ _ _ h4
      exact ⟨g1, a, cap, g2, g3, fun hp => by rw [h6]; exact g4 hp⟩
     ·rw [h4] at hsome; cases hsome
    ·rcases hR.blk _ _ hb' with ⟨b, h4, h5, h6, h7⟩ | ⟨h4, _⟩
     ·simp only [skB] at h5
      rw [hsk] at h5
      cases b with
      | box b0 f0 =>
       obtain ⟨g1, a, cap, g2, g3, g4⟩ := h3' _ _ _ _ h4 h5.symm hn
       exact ⟨g1, a, cap, g2, g3, fun hp => by rw [h6]; exact g4 hp⟩
      | row t xs l => simp only [Sk.rep.injEq] at h5; omega
      | loop => simp at h5
      | dfr => simp at h5
     ·rw [h4] at hsome; cases hsome
   ·cases h
  | _ => simp [decS] at h
 | .fn f ss us, a, x, cs, hc, h => by
  cases a with
  | fn f' as bs =>
   simp only [decS] at h
   split at h
   ·rename_i e
    subst e
    split at h
    ·rename_i x1 x2 h1 h2
     cases h
     simp only [fillS]
     unfold CC at hc ⊢
     obtain ⟨vs, ws, h3, h4, h5⟩ := hc
     exact ⟨vs, ws, h3, decL_cv hR ss h4 h1, decL_cv hR us h5 h2⟩
    ·cases h
   ·cases h
  | _ => simp [decS] at h
 | .yld g, a, x, cs, hc, h => by
  cases a with
  | yld g' =>
   simp only [decS] at h
   split at h
   ·rename_i e
    obtain ⟨rfl, hsome⟩ := e
    simp only [fillS]
    unfold CC at hc ⊢
    obtain ⟨v, h1, h2, h3⟩ := hc
    refine ⟨v, h1, h2, fun b' hb' => ?_⟩
    rcases hR.blk _ _ hb' with ⟨b, h4, h5, h6, _⟩ | ⟨h4, _⟩
    ·obtain ⟨k, h7, h8⟩ := h3 b h4
     exact ⟨k, by rw [h6, h7], h8⟩
    ·rw [h4] at hsome; cases hsome
   ·cases h
  | _ => simp [decS] at h
 | .nilf, a, x, cs, hc, h => by
  cases a with
  | nilf => simp only [fillS]; unfold CC at hc ⊢; exact hc
  | _ => simp [decS] at h
 | .nilp, a, x, cs, hc, h => by
  cases a with
  | nilp => simp only [fillS]; unfold CC at hc ⊢; exact hc
  | _ => simp [decS] at h
 | .nilsl, a, x, cs, hc, h => by
  cases a with
  | nilsl => simp only [fillS]; unfold CC at hc ⊢; exact hc
  | _ => simp [decS] at h
 | .nilm, a, x, cs, hc, h => by
  cases a with
  | nilm => simp only [fillS]; unfold CC at hc ⊢; exact hc
  | _ => simp [decS] at h
 | .any, a, x, cs, hc, h => by
  simp only [decS] at h
  split at h
  ·rename_i he
   simp only [fillS]
   unfold CC
   exact cc_one hc (eqSk_eq he)
  ·cases h
theorem decL_cc (hR : Refit E E') : (ss : List Sh) → ∀ {as : List AV} {x : denSL ss} {cs : List Value}, CCL E as cs → decL E.H ss as = some x → CCL E' (fillL ss x) cs
 | [], [], x, cs, hc, h => by simp only [fillL]; unfold CCL at hc ⊢; exact hc
 | s :: ss, a :: as, x, cs, hc, h => by
  simp only [decL] at h
  split at h
  ·rename_i x1 x2 h1 h2
   cases h
   simp only [fillL]
   unfold CCL at hc ⊢
   obtain ⟨p, q, h3, h4, h5⟩ := hc
   exact ⟨p, q, h3, decS_cc hR s h4 h1, decL_cc hR ss h5 h2⟩
  ·cases h
 | [], _ :: _, _, _, _, h | _ :: _, [], _, _, _, h => by simp [decL] at h
theorem decL_cv (hR : Refit E E') : (ss : List Sh) → ∀ {as : List AV} {x : denSL ss} {vs : List Value}, CVL E as vs → decL E.H ss as = some x → CVL E' (fillL ss x) vs
 | [], [], x, cs, hc, h => by simp only [fillL]; unfold CVL at hc ⊢; exact hc
 | s :: ss, a :: as, x, cs, hc, h => by
  simp only [decL] at h
  split at h
  ·rename_i x1 x2 h1 h2
   cases h
   simp only [fillL]
   unfold CVL at hc ⊢
   obtain ⟨v, us, h3, h4, h5⟩ := hc
   refine ⟨v, us, h3, ?_, decL_cv hR ss h5 h2⟩
   obtain ⟨q1, q2⟩ := decS_agg h1
   rcases h4 with ⟨cs, p, q⟩ | h4
   ·exact .inl ⟨cs, decS_cc hR s p h1, by rw [q1]; exact q⟩
   ·exfalso
    cases a <;> simp [AV.isTop] at h4
    exact q2 (by simp [skA])
  ·cases h
 | [], _ :: _, _, _, _, h | _ :: _, [], _, _, _, h => by simp [decL] at h
end
theorem decS_cv (hR : Refit E E') {s : Sh} {a : AV} {x : denS s} {v : Value} (hc : CV E a v) (h : decS E.H s a = some x) : CV E' (fillS s x) v := by
 obtain ⟨q1, q2⟩ := decS_agg h
 obtain ⟨cs, p, q⟩ := hc.cells q2
 exact CV.mk (decS_cc hR s p h) (by rw [q1]; exact q)
theorem decR_ok (hR : Refit E E') {rs : Regs} {n : Nat} {tmps : Array Value} (hr : RegsOK E rs n tmps) : ∀ (r : List (Nat × Sh)) {x : denR r}, decR E.H r rs = some x → RegsOK E' (fillR r x) n tmps
 | [], x, h => ⟨hr.1, fun t => trivial⟩
 | (t, s) :: r, x, h => by
  simp only [decR] at h
  split at h
  ·rename_i x1 x2 h1 h2
   cases h
   refine ⟨hr.1, fun u => ?_⟩
   simp only [fillR, look]
   split
   ·rename_i e; subst e; exact decS_cv hR (hr.2 t) h1
   ·exact (decR_ok hR hr r h2).2 u
  ·cases h
end
theorem decH_at {H : Heap} : ∀ (h : List (Nat × BSh)) {x : denH h} {cs : List (Code × Code)} {id : Nat} {b' : Blk}, decH H h = some x → hlook (fillH cs h x) id = some b' →
  ∃ (k : Nat) (b : BSh) (y : denB b), h[k]? = some (id, b) ∧ decB H id b = some y ∧ b' = fillB (cs.getD k noCodes) b y
 | [], x, cs, id, b', _, h => by simp [fillH, hlook] at h
 | (i, b) :: r, x, cs, id, b', h, hl => by
  simp only [decH] at h
  split at h
  ·rename_i y z h1 h2
   cases h
   simp only [fillH, hlook] at hl
   split at hl
   ·rename_i e
    subst e
    cases hl
    exact ⟨0, b, y, rfl, h1, by cases cs <;> rfl⟩
   ·obtain ⟨k, b2, y2, q1, q2, q3⟩ := decH_at r h2 hl
    refine ⟨k + 1, b2, y2, q1, q2, ?_⟩
    rw [q3]
    cases cs <;> rfl
  ·cases h
mutual
theorem lendS_less : (s : Sh) → (a : AV) → ∀ H : Heap, HLess (lendS s a H) H
 | .dat t, a, H => by simp only [lendS]; exact lendA_less a H
 | .agg fs, a, H => by
  cases a with
  | agg as => simp only [lendS]; exact lendSL_less fs as H
  | _ => simp only [lendS]; exact HLess.refl H
 | .arrL fs, a, H => by
  cases a with
  | arrL as => simp only [lendS]; exact lendSL_less fs as H
  | _ => simp only [lendS]; exact HLess.refl H
 | .fn f x y, a, H => by
  cases a with
  | fn g as bs => simp only [lendS]; exact (lendSL_less y bs _).trans (lendSL_less x as H)
  | _ => simp only [lendS]; exact HLess.refl H
 | .hp _ _, a, H | .ptr _ _, a, H | .row _, a, H | .sub _, a, H | .yld _, a, H | .nilf, a, H | .nilp, a, H | .nilsl, a, H | .nilm, a, H | .any, a, H => by
  cases a <;> (simp only [lendS]; exact HLess.refl H)
theorem lendSL_less : (ss : List Sh) → (as : List AV) → ∀ H : Heap, HLess (lendSL ss as H) H
 | [], as, H => by simp only [lendSL]; exact HLess.refl H
 | s :: ss, [], H => by simp only [lendSL]; exact HLess.refl H
 | s :: ss, a :: as, H => by simp only [lendSL]; exact (lendSL_less ss as _).trans (lendS_less s a H)
end
theorem lendR_less : ∀ (r : List (Nat × Sh)) (rs : Regs) (H : Heap), HLess (lendR r rs H) H
 | [], _, H => HLess.refl H
 | (_, s) :: r, rs, H => (lendR_less r rs _).trans (lendS_less s _ H)
theorem lendF_less : ∀ (fs : List FSpec) (rs : List Fr) (H : Heap), HLess (lendF fs rs H) H
 | [], rs, H => by simp only [lendF]; exact HLess.refl H
 | f :: fs, [], H => by simp only [lendF]; exact HLess.refl H
 | f :: fs, r :: rs, H => by simp only [lendF]; exact (lendF_less fs rs _).trans (lendR_less f.regs r.regs H)
theorem lendB_less : ∀ (h : List (Nat × BSh)) (H : Heap), HLess (lendB h H) H
 | [], H => by simp only [lendB]; exact HLess.refl H
 | (i, .box s f) :: r, H => by
  simp only [lendB]
  refine (lendB_less r _).trans ?_
  split
  ·exact lendS_less s _ H
  ·exact HLess.refl H
 | (i, .loop a b rg c d e) :: r, H => by
  simp only [lendB]
  refine (lendB_less r _).trans ?_
  split
  ·exact lendR_less rg _ H
  ·exact HLess.refl H
 | (i, .loopE a b rg c d e) :: r, H => by
  simp only [lendB]
  refine (lendB_less r _).trans ?_
  split
  ·exact lendR_less rg _ H
  ·exact HLess.refl H
 | (i, .row t l) :: r, H => by simp only [lendB]; exact lendB_less r H
 | (i, .dfr b) :: r, H => by simp only [lendB]; exact lendB_less r H
end Go.Gh
/- The ghost machine: at a cut a configuration is told anew (2). Conditions: none (lemmas alone). -/
namespace Go.Gh
mutual
theorem skA_fill : (s : Sh) → ∀ {x : denS s}, skA (fillS s x) = skS s
 | .dat t, x => rfl
 | .agg fs, x => by simp only [fillS, skA, skS, skAL_fill fs]
 | .arrL fs, x => by simp only [fillS, skA, skS, skAL_fill fs]
 | .hp _ _, _ | .ptr _ _, _ | .row _, _ | .sub _, _ | .fn _ _ _, _ | .yld _, _ | .nilf, _ | .nilp, _ | .nilsl, _ | .nilm, _ | .any, _ => rfl
theorem skAL_fill : (ss : List Sh) → ∀ {x : denSL ss}, skAL (fillL ss x) = skSL ss
 | [], _ => rfl
 | s :: ss, x => by simp only [fillL, skAL, skSL, skA_fill s, skAL_fill ss]
end
theorem decF_fr {E E' : Env} {H : Heap} (hw : E'.m.w = E.m.w) (hH : E.H = H) (hR : Refit E E') : ∀ (fs : List FSpec) {rs : List Fr} {x : denF fs} {Fs : List Frame}, decF H fs rs = some x → All2 (FrOK E) rs Fs → (∀ f ∈ rs, ∀ g, usesF g f = true → E'.ρ g = E.ρ g) →
  All2 (FrOK E') (fillF fs (rs.map (·.todo)) x) Fs ∧ (fillF fs (rs.map (·.todo)) x).length = rs.length
 | [], [], x, Fs, h, hc, _ => by cases hc; exact ⟨.nil, rfl⟩
 | f :: fs, r :: rs, x, Fs, h, hc, hu => by
  simp only [decF] at h
  split at h
  ·rename_i e
   obtain ⟨e1, e2, e3, e4⟩ := e
   split at h
   ·rename_i x1 x2 h1 h2
    cases h
    cases hc with
    | cons p q =>
     obtain ⟨q1, q2⟩ := decF_fr hw hH hR fs h2 q (fun g hg => hu g (by simp [hg]))
     simp only [List.map_cons, fillF, List.headD_cons, List.tail_cons]
     refine ⟨.cons ?_ q1, by simp [q2]⟩
     subst hH
     have hr := decR_ok hR p.regs f.regs h1
     refine p.to (f := r) ?_ ?_ (hu r (by simp)) (fun k _ h => by rw [hw]; exact h)
     ·rw [e1, e2, e3, e4]
     ·exact hr
   ·cases h
  ·cases h
 | [], _ :: _, _, _, h, _, _ | _ :: _, [], _, _, h, _, _ => by simp [decF] at h
section
variable {B : Base} {E : Env} {F : Frame} {Fs : List Frame}
theorem jmpOf_jcode {o : Option Code} {j : Nat} (h : jcode o = some j) : jmpOf j = o := by
 unfold jcode at h
 split at h
 ·cases h; rfl
 ·cases h; rfl
 ·rename_i i
  cases h
  simp [jmpOf]
 ·rename_i i
  cases h
  show (cond (Nat.beq ((2 * i + 1) % 2) 0) _ _) = _
  rw [show (2 * i + 1) % 2 = 1 from by omega]
  rw [show (2 * i + 1) / 2 = i from by omega]
  rfl
 ·cases h
theorem retell {hp : List (Nat × BSh)} {H : Heap} {z : denH hp} {used : Nat → Bool} (hs0 : StateOK B E) (hless : HLess H E.H) (hz : decH H hp = some z) (hall : ∀ x ∈ hp, (hlook H x.1).isSome = true ∨ used x.1 = false) (hused : ∀ id, id < B.bound → used id = true) :
  ∃ E', E'.H = fillH (hp.map (codesOf E.H)) hp z ∧ StateOK B E' ∧ Refit (E.less B H) E' ∧ E'.m.w = E.m.w ∧ ∀ g, used g = true → E'.ρ g = E.ρ g := by
 have hs1 := hs0.less hless
 obtain ⟨H', hH'⟩ : ∃ H', H' = fillH (hp.map (codesOf E.H)) hp z := ⟨_, rfl⟩
 let ρ' : Nat → Option Nat := fun id => if (hlook H id).isNone && (hlook H' id).isSome then none else E.ρ id
 have hρ : ∀ id, (hlook H id).isSome = true → ρ' id = E.ρ id := by
  intro id hi
  simp only [ρ']
  rw [if_neg]
  cases hq : hlook H id with
  | none => rw [hq] at hi; cases hi
  | some b => simp
 have hat : ∀ id b', hlook H' id = some b' → ∃ b y, (id, b) ∈ hp ∧ decB H id b = some y ∧ b' = fillB (codesOf E.H (id, b)) b y := by
  intro id b' hb
  rw [hH'] at hb
  obtain ⟨k, b, y, q1, q2, q3⟩ := decH_at hp hz hb
  refine ⟨b, y, List.mem_of_getElem? q1, q2, ?_⟩
  rw [q3]
  congr 1
  simp only [List.getD, List.getElem?_map, q1, Option.map_some, Option.getD_some]
 have huse : ∀ g, used g = true → ρ' g = E.ρ g := by
  intro g hg
  cases hq : hlook H g with
  | some b => exact hρ g (by rw [hq]; rfl)
  | none =>
   simp only [ρ']
   rw [if_neg]
   intro hc
   simp only [Bool.and_eq_true] at hc
   obtain ⟨b', hb'⟩ := Option.isSome_iff_exists.1 hc.2
   obtain ⟨b, y, q1, _, _⟩ := hat g b' hb'
   rcases hall _ q1 with h1 | h1
   ·simp [hq] at h1
   ·simp only at h1; rw [hg] at h1; cases h1
 have hblk : ∀ id b', hlook H' id = some b' → (∃ b, hlook H id = some b ∧ skB b' = skB b ∧ ρ' id = E.ρ id ∧ (∀ t xs l, b' = .row t xs l → ∃ l0, b = .row t xs l0) ∧ (∀ j, ownB j b' → ownB j b)) ∨
   (hlook H id = none ∧ ρ' id = none ∧ ∃ t l, b' = .row t [] l) := by
  intro id b' hb'
  obtain ⟨b, y, _, q2, q3⟩ := hat id b' hb'
  cases b with
  | box sh f =>
   simp only [decB] at q2
   split at q2
   ·rename_i a f' hl
    split at q2
    ·rename_i e
     obtain ⟨rfl, hsk⟩ := e
     left
     rw [q3]
     refine ⟨_, hl, ?_, hρ id (by rw [hl]; rfl), fun t xs l e => by (simp only [fillB] at e; cases e), fun j hj => hj⟩
     simp only [fillB, skB, skA_fill]
     exact eqSk_eq hsk
    ·cases q2
   ·cases q2
  | row t l =>
   simp only [decB] at q2
   split at q2
   ·rename_i u xs l' hl
    split at q2
    ·rename_i hl'
     obtain ⟨e, rfl⟩ := castT_spec q2
     cases e
     left
     rw [q3]
     refine ⟨_, hl, rfl, hρ id (by rw [hl]; rfl), fun t2 xs2 l2 e => ?_, fun j hj hlt => hj (hl' hlt)⟩
     simp only [fillB] at e
     cases e
     exact ⟨l', rfl⟩
    ·cases q2
   ·rename_i hl
    cases q2
    right
    refine ⟨hl, ?_, t, l, q3⟩
    simp only [ρ']
    rw [if_pos (by rw [hl, hb']; rfl)]
   ·cases q2
  | loop fn n r ps d busy =>
   simp only [decB] at q2
   split at q2
   ·rename_i busy' fn' n' rs ps' px py d' hl
    left
    rw [q3]
    exact ⟨_, hl, rfl, hρ id (by rw [hl]; rfl), fun t xs l e => by (simp only [fillB] at e; cases e), fun j hj => hj.elim⟩
   ·cases q2
  | dfr b =>
   simp only [decB] at q2
   split at q2
   ·rename_i b' hl
    left
    rw [q3]
    exact ⟨_, hl, rfl, hρ id (by rw [hl]; rfl), fun t xs l e => by (simp only [fillB] at e; cases e), fun j hj => hj.elim⟩
   ·cases q2
  | loopE fn n r ps d js =>
   simp only [decB] at q2
   split at q2
   ·rename_i busy' fn' n' rs ps' px py d' hl
    left
    rw [q3]
    exact ⟨_, hl, rfl, hρ id (by rw [hl]; rfl), fun t xs l e => by (simp only [fillB] at e; cases e), fun j hj => hj.elim⟩
   ·cases q2
 let E' : Env := { m := { E.m with Mut := fun k j => B.Fo k j ∨ Own ρ' H' k j }, ρ := ρ', H := H' }
 have hle : (E.less B H).m.le E'.m := by
  refine ⟨fun k j v hc hm => ⟨hc, fun hm' => hm ?_⟩, fun _ _ h => h, fun _ _ h => h⟩
  rcases hm' with hf | ⟨id, b', h1, h2, h3⟩
  ·exact .inl hf
  ·rcases hblk id b' h1 with ⟨b, h4, _, h5, _, h6⟩ | ⟨_, h5, _⟩
   ·exact .inr ⟨id, b, h4, by rw [← h5]; exact h2, h6 j h3⟩
   ·rw [h5] at h2; cases h2
 have hR : Refit (E.less B H) E' := by
  refine ⟨hle, hs1.lent, fun id b' hb' => ?_⟩
  rcases hblk id b' hb' with ⟨b, h1, h2, h3, h4, _⟩ | h1
  ·exact .inl ⟨b, h1, h2, h3, h4⟩
  ·exact .inr h1
 have hstays : Stays B.bound (E.less B H) E' := by
  refine ⟨hle, fun id hid b' hb' => ?_, fun id hid => huse id (hused id hid), fun id cc hid hc => ?_, fun _ h => h, Nat.le_refl _, fun k _ hi => ⟨fun id b' hb' hr => ?_, fun _ ho _ => ho⟩⟩
  ·rcases hblk id b' hb' with ⟨b, h1, h2, h3, h4, _⟩ | ⟨h1, _, _⟩
   ·refine ⟨b, h1, h3, h2, fun t xs l e => ?_⟩
    obtain ⟨l0, e0⟩ := h4 t xs l e
    exact ⟨xs, l0, e0, rfl⟩
   ·obtain ⟨b, y, q1, _, _⟩ := hat id b' hb'
    rcases hall _ q1 with h5 | h5
    ·simp [h1] at h5
    ·simp only at h5; rw [hused id hid] at h5; cases h5
  ·obtain ⟨x, jmp, y, fn, n', r, ps, d, hl⟩ := codesAt_of hc
   obtain ⟨b, z', q1, q2, q3⟩ := hat id _ hl
   have key : ∀ px py dn jp bs fn' n'' rs ps' d', hlook H id = some (.loop dn jp bs fn' n'' rs ps' px py d') → codesOf E.H (id, b) = (px, py) := by
    intro px py dn jp bs fn' n'' rs ps' d' hl'
    obtain ⟨b0, hb0, hb1⟩ := hless id _ hl'
    cases hb1
    simp only [codesOf, hb0]
   cases b with
   | loop fn n r ps d busy =>
    simp only [decB] at q2
    split at q2
    ·rename_i hl'
     have hk := key _ _ _ _ _ _ _ _ _ _ hl'
     simp only [fillB, Blk.loop.injEq, hk] at q3
     rw [show codesAt (E.less B H).H id = _ from codesAt_eq hl', ← q3.2.2.2.2.2.2.2.1, ← q3.2.2.2.2.2.2.2.2.1]
    ·cases q2
   | loopE fn n r ps d js =>
    simp only [decB] at q2
    split at q2
    ·rename_i hl'
     have hk := key _ _ _ _ _ _ _ _ _ _ hl'
     simp only [fillB, Blk.loop.injEq, hk] at q3
     rw [show codesAt (E.less B H).H id = _ from codesAt_eq hl', ← q3.2.2.2.2.2.2.2.1, ← q3.2.2.2.2.2.2.2.2.1]
    ·cases q2
   | _ => simp [fillB] at q3
  ·rcases hblk id b' hb' with ⟨b, h1, _, h3, _⟩ | ⟨_, h2, _⟩
   ·exact hi id b h1 (h3.symm.trans hr)
   ·rw [show E'.ρ id = ρ' id from rfl, h2] at hr; cases hr
 have hs' : StateOK B E' := by
  refine ⟨fun _ _ => Iff.rfl, ⟨hs0.fo.1, fun i c k j h1 h2 hf => ?_⟩, ?_, ?_, hs1.memo.to hle rfl (fun _ _ _ => rfl), hs0.ext, hs0.reg, hs0.late, fun g => CV.to hle (fun j hj => by rw [hs0.globm] at hj; cases hj) (hs1.glob g), hs0.globm, hs1.since.trans hstays, hs0.size0⟩
  ·rcases hblk i c h1 with ⟨b, h3, _, h4, _⟩ | ⟨_, h4, _⟩
   ·exact hs1.fo.2 i b k j h3 (by rw [← h2]; exact h4.symm) hf
   ·rw [show E'.ρ i = ρ' i from rfl, h4] at h2; cases h2
  ·intro id id' b1 b2 k h1 h2 h3 h4
   rcases hblk id b1 h1 with ⟨c1, q1, _, q2, _⟩ | ⟨_, q2, _⟩
   ·rcases hblk id' b2 h2 with ⟨c2, p1, _, p2, _⟩ | ⟨_, p2, _⟩
    ·exact hs1.inj _ _ _ _ _ q1 p1 (q2.symm.trans h3) (p2.symm.trans h4)
    ·rw [show E'.ρ id' = ρ' id' from rfl, p2] at h4; cases h4
   ·rw [show E'.ρ id = ρ' id from rfl, q2] at h3; cases h3
  ·intro id b' hb'
   obtain ⟨b, y, _, q2, q3⟩ := hat id b' hb'
   cases b with
   | box sh f =>
    simp only [decB] at q2
    split at q2
    ·rename_i a f' hl
     split at q2
     ·obtain ⟨k, arr, el, p1, p2, p3, p4⟩ := hs1.blk _ _ hl
      rw [q3]
      exact ⟨k, arr, el, by rw [show E'.ρ id = ρ' id from rfl, hρ id (by rw [hl]; rfl)]; exact p1, p2, p3, decS_cc hR sh p4 q2⟩
     ·cases q2
    ·cases q2
   | row t l =>
    simp only [decB] at q2
    split at q2
    ·rename_i u xs l' hl
     split at q2
     ·obtain ⟨e, rfl⟩ := castT_spec q2
      cases e
      rw [q3]
      have he : E'.ρ id = E.ρ id := hρ id (by rw [hl]; rfl)
      rcases hs1.blk _ _ hl with ⟨p1, p2⟩ | ⟨k, arr, el, es, p1, p2, p3, p4, p5⟩
      ·exact .inl ⟨by rw [he]; exact p1, p2⟩
      ·exact .inr ⟨k, arr, el, es, by rw [he]; exact p1, p2, p3, p4.mono fun x cs p => Enc.mono hle t p, p5⟩
     ·cases q2
    ·rename_i hl
     cases q2
     rw [q3]
     refine .inl ⟨?_, rfl⟩
     show ρ' id = none
     simp only [ρ']
     rw [if_pos (by rw [hl, hb']; rfl)]
    ·cases q2
   | loop fn n r ps d busy =>
    simp only [decB] at q2
    split at q2
    ·rename_i busy' fn' n' rs ps' px py d' hl
     split at q2
     ·rename_i e
      obtain ⟨rfl, rfl, rfl, rfl, rfl⟩ := e
      obtain ⟨k, kd, st, tmps, p1, p2, p3, p4, p5, p6⟩ := hs1.blk _ _ hl
      obtain ⟨b0, hb0, hb1⟩ := hless id _ hl
      cases hb1
      have hcodes : codesOf E.H (id, .loop fn n r ps d busy) = (px, py) := by simp only [codesOf, hb0]
      rw [q3, hcodes]
      exact ⟨k, kd, st, tmps, by rw [show E'.ρ id = ρ' id from rfl, hρ id (by rw [hl]; rfl)]; exact p1, p2, trivial, p4, decR_ok hR p5 r q2, p6⟩
     ·cases q2
    ·cases q2
   | dfr b =>
    simp only [decB] at q2
    split at q2
    ·rename_i b' hl
     split at q2
     ·rename_i e
      subst e
      exact (hs1.blk _ _ hl).elim
     ·cases q2
    ·cases q2
   | loopE fn n r ps d js =>
    simp only [decB] at q2
    split at q2
    ·rename_i dn jp fn' n' rs ps' px py d' hl
     split at q2
     ·rename_i jj hjj
      split at q2
      ·rename_i e
       obtain ⟨rfl, rfl, rfl, rfl, rfl⟩ := e
       split at q2
       ·rename_i r' hr'
        cases q2
        obtain ⟨k, kd, st, tmps, p1, p2, p3, p4, p5, p6⟩ := hs1.blk _ _ hl
        obtain ⟨b0, hb0, hb1⟩ := hless id _ hl
        cases hb1
        have hcodes : codesOf E.H (id, .loopE fn n r ps d js) = (px, py) := by simp only [codesOf, hb0]
        rw [q3, hcodes]
        have hj := jmpOf_jcode hjj
        simp only [fillB, hj]
        exact ⟨k, kd, st, tmps, by rw [show E'.ρ id = ρ' id from rfl, hρ id (by rw [hl]; rfl)]; exact p1, p2, trivial, p4, decR_ok hR p5 r hr', p6⟩
       ·cases q2
      ·cases q2
     ·cases q2
    ·cases q2
 exact ⟨E', hH', hs', hR, rfl, huse⟩
theorem decK_ok {s : Spec} {c : Cf} {y : denK s} (hS : Sim B E c F Fs) (h : decK s c = some y) : ∃ E', Sim B E' (fillK s (keptOf s c) y) F Fs ∧ E'.m.w = E.m.w := by
 unfold decK at h
 simp only at h
 generalize hH : lendB s.heap (lendF s.frs (c.fr :: c.callers) c.heap) = H at h
 have hless0 : HLess H c.heap := by rw [← hH]; exact (lendB_less _ _).trans (lendF_less _ _ _)
 have hless : HLess H E.H := by rw [← hS.heap]; exact hless0
 have hS1 := hS.less hless
 split at h
 ·rename_i hall
  obtain ⟨hall, hbase⟩ := hall
  split at h
  ·rename_i x z hx hz
   cases h
   rw [List.all_eq_true] at hall
   obtain ⟨E', hH', hs', hR, hw, huse⟩ := retell (used := fun g => usesS g c) hS.ok hless hz (fun x hx => by
    have := hall x hx
    simp only [Bool.or_eq_true, Bool.not_eq_true'] at this
    exact this) (fun id hid => by
     cases hu : usesS id c with
     | true => rfl
     | false => have := usesS_low hS.base hu; omega)
   have hfrs := decF_fr (E := E.less B H) (E' := E') (H := H) hw rfl hR s.frs hx (.cons hS1.fr hS1.callers) (fun f hf g hg => huse g (by
    simp only [usesS, Bool.or_eq_true, List.any_eq_true]
    rcases List.mem_cons.1 hf with rfl | hf
    ·exact .inl (.inl (.inl hg))
    ·exact .inl (.inl (.inr ⟨f, hf, hg⟩))))
   refine ⟨E', ?_, hw⟩
   have htd : (keptOf s c).todos = (c.fr :: c.callers).map (·.todo) := rfl
   have hcs : (keptOf s c).cs = s.heap.map (codesOf E.H) := by rw [← hS.heap]; rfl
   obtain ⟨hf1, hf2⟩ := hfrs
   unfold fillK
   simp only
   rw [htd, hcs]
   generalize fillF s.frs ((c.fr :: c.callers).map (·.todo)) x = l at hf1 hf2
   cases hf1 with
   | cons p q => exact ⟨hH'.symm, hs', p, q, hS.nd, by rw [← hS.base, hbase]⟩
  ·cases h
 ·cases h
end
end Go.Gh
/- The ghost machine: two numbers of blocks are exchanged. Conditions: as each lemma states. -/
namespace Go.Gh
section
variable {B : Base} {E : Env} {x y : Nat}
theorem swN_swN (x y j : Nat) : swN x y (swN x y j) = j := by
 unfold swN
 by_cases h1 : j = x
 ·subst h1
  by_cases h2 : y = j
  ·subst h2; simp
  ·simp [h2]
 ·by_cases h2 : j = y
  ·subst h2; simp [h1]
  ·simp [h1, h2]
theorem swN_inj {x y i j : Nat} (h : swN x y i = swN x y j) : i = j := by
 have := congrArg (swN x y) h
 rwa [swN_swN, swN_swN] at this
theorem swN_low {x y n i : Nat} (hx : n ≤ x) (hy : n ≤ y) (hi : i < n) : swN x y i = i := by
 unfold swN
 rw [if_neg (by omega), if_neg (by omega)]
theorem hlook_sw (x y : Nat) : ∀ (H : Heap) (i : Nat), hlook (swH x y H) (swN x y i) = (hlook H i).map (swB x y)
 | [], _ => rfl
 | (j, b) :: r, i => by
  simp only [swH, hlook]
  by_cases h : j = i
  ·subst h; simp
  ·rw [if_neg h, if_neg (fun e => h (swN_inj e)), hlook_sw x y r i]
theorem hlook_sw' {x y i : Nat} {H : Heap} {b : Blk} (h : hlook (swH x y H) i = some b) : ∃ b0, hlook H (swN x y i) = some b0 ∧ b = swB x y b0 := by
 rw [← swN_swN x y i, hlook_sw] at h
 cases hq : hlook H (swN x y i) with
 | none => rw [hq] at h; cases h
 | some b0 => rw [hq] at h; simp only [Option.map_some, Option.some.injEq] at h; exact ⟨b0, rfl, h.symm⟩
mutual
theorem skA_sw (x y : Nat) : (a : AV) → skA (swA x y a) = skA a
 | .agg fs => by simp only [swA, skA, skAL_sw x y fs]
 | .arrL fs => by simp only [swA, skA, skAL_sw x y fs]
 | .tup fs => by simp only [swA, skA]
 | .ptr k p => by simp only [swA, skA]
 | .row k => by simp only [swA, skA]
 | .sub k _ _ => by simp only [swA, skA]
 | .yld k => by simp only [swA, skA]
 | .fn f fs cs => by simp only [swA, skA]
 | .dat _ _ | .cptr _ _ | .hp _ _ _ | .full _ _ | .hmp _ _ _ | .hm _ _ _ | .nilsl | .nilp | .nilf | .nilm | .any | .top => by simp only [swA]
theorem skAL_sw (x y : Nat) : (as : List AV) → skAL (swL x y as) = skAL as
 | [] => rfl
 | a :: as => by simp only [swL, skAL, skA_sw x y a, skAL_sw x y as]
end
theorem skB_sw (x y : Nat) (b : Blk) : skB (swB x y b) = skB b := by
 cases b <;> simp [swB, skB, skA_sw]
theorem isAgg_sw (x y : Nat) (a : AV) : (swA x y a).isAgg = a.isAgg := by
 cases a <;> simp only [swA] <;> rfl
theorem isTop_sw (x y : Nat) (a : AV) : (swA x y a).isTop = a.isTop := by
 cases a <;> simp only [swA] <;> rfl
theorem row_sw {b0 : Blk} {t : Ty} {xs : List (den t)} {l : Bool} (h : Blk.row t xs l = swB x y b0) : b0 = .row t xs l := by
 cases b0 <;> simp only [swB] at h <;> first | exact h.symm | cases h
theorem look_swR (x y : Nat) : ∀ (r : Regs) (t : Nat), look (swR x y r) t = swA x y (look r t)
 | [], _ => rfl
 | (u, a) :: r, t => by simp only [swR, look]; split <;> simp [look_swR x y r t]
def Env.sw (E : Env) (x y : Nat) : Env := ⟨E.m, fun j => E.ρ (swN x y j), swH x y E.H⟩
mutual
theorem CC.sw (x y : Nat) : (a : AV) → ∀ {cs : List Value}, CC E a cs → CC (E.sw x y) (swA x y a) cs
 | .agg fs, cs, h => by simp only [swA]; unfold CC at *; exact CCL.sw x y fs h
 | .arrL fs, cs, h => by simp only [swA]; unfold CC at *; exact CCL.sw x y fs h
 | .tup fs, cs, h => by unfold CC at h; exact h.elim
 | .ptr k p, cs, h => by
  simp only [swA]
  unfold CC at *
  obtain ⟨v, h1, h2, h3⟩ := h
  refine ⟨v, h1, h2, fun b hb => ?_⟩
  obtain ⟨b0, hb0, rfl⟩ := hlook_sw' hb
  rw [swN_swN] at hb0
  obtain ⟨j, hj, hv⟩ := h3 b0 hb0
  exact ⟨j, by show E.ρ (swN x y (swN x y k)) = some j; rw [swN_swN]; exact hj, by rw [skB_sw]; exact hv⟩
 | .row k, cs, h => by
  simp only [swA]
  unfold CC at *
  obtain ⟨v, h1, h2, h3⟩ := h
  refine ⟨v, h1, h2, fun t xs l hb => ?_⟩
  obtain ⟨b0, hb0, e⟩ := hlook_sw' hb
  rw [swN_swN, row_sw e] at hb0
  have := h3 t xs l hb0
  show (E.ρ (swN x y (swN x y k)) = none ∧ _) ∨ ∃ k' cap e', E.ρ (swN x y (swN x y k)) = some k' ∧ _
  rw [swN_swN]
  exact this
 | .sub k lo len, cs, h => by
  simp only [swA]
  unfold CC at *
  obtain ⟨v, h1, h2, h3, h4⟩ := h
  refine ⟨v, h1, h2, fun t xs l hb => ?_, fun b f n s hb hs hn => ?_⟩
  ·obtain ⟨b0, hb0, e⟩ := hlook_sw' hb
   rw [swN_swN, row_sw e] at hb0
   obtain ⟨q1, a, cap, q2, q3, q4⟩ := h3 t xs l hb0
   exact ⟨q1, a, cap, q2, q3, fun hl => let ⟨k', q5, q6⟩ := q4 hl; ⟨k', by show E.ρ (swN x y (swN x y k)) = some k'; rw [swN_swN]; exact q5, q6⟩⟩
  ·obtain ⟨b0, hb0, e⟩ := hlook_sw' hb
   rw [swN_swN] at hb0
   cases b0 with
   | box a f' =>
    simp only [swB, Blk.box.injEq] at e
    obtain ⟨rfl, rfl⟩ := e
    rw [skA_sw] at hs
    obtain ⟨q1, a, cap, q2, q3, q4⟩ := h4 _ _ n s hb0 hs hn
    exact ⟨q1, a, cap, q2, q3, fun hl => let ⟨k', q5, q6⟩ := q4 hl; ⟨k', by show E.ρ (swN x y (swN x y k)) = some k'; rw [swN_swN]; exact q5, q6⟩⟩
   | _ => simp [swB] at e
 | .yld k, cs, h => by
  simp only [swA]
  unfold CC at *
  obtain ⟨v, h1, h2, h3⟩ := h
  refine ⟨v, h1, h2, fun b hb => ?_⟩
  obtain ⟨b0, hb0, rfl⟩ := hlook_sw' hb
  rw [swN_swN] at hb0
  obtain ⟨j, hj, hv⟩ := h3 b0 hb0
  exact ⟨j, by show E.ρ (swN x y (swN x y k)) = some j; rw [swN_swN]; exact hj, hv⟩
 | .fn f fs us, cs, h => by
  simp only [swA]; unfold CC at *
  obtain ⟨vs, ws, h1, h2, h3⟩ := h
  exact ⟨vs, ws, h1, CVL.sw x y fs h2, CVL.sw x y us h3⟩
 | .dat _ _, _, h | .cptr _ _, _, h | .hp _ _ _, _, h | .full _ _, _, h | .hmp _ _ _, _, h | .hm _ _ _, _, h | .nilsl, _, h | .nilp, _, h | .nilf, _, h | .nilm, _, h | .any, _, h | .top, _, h => by simp only [swA]; unfold CC at *; exact h
theorem CCL.sw (x y : Nat) : (as : List AV) → ∀ {cs : List Value}, CCL E as cs → CCL (E.sw x y) (swL x y as) cs
 | [], cs, h => by simp only [swL]; unfold CCL at *; exact h
 | a :: as, cs, h => by
  simp only [swL]
  unfold CCL at *
  obtain ⟨u, v, e, h1, h2⟩ := h
  exact ⟨u, v, e, CC.sw x y a h1, CCL.sw x y as h2⟩
theorem CVL.sw (x y : Nat) : (as : List AV) → ∀ {vs : List Value}, CVL E as vs → CVL (E.sw x y) (swL x y as) vs
 | [], vs, h => by simp only [swL]; unfold CVL at *; exact h
 | a :: as, vs, h => by
  simp only [swL]
  unfold CVL at *
  obtain ⟨v, us, e, h1, h2⟩ := h
  refine ⟨v, us, e, ?_, CVL.sw x y as h2⟩
  rcases h1 with ⟨cs, h3, h4⟩ | h3
  ·exact .inl ⟨cs, CC.sw x y a h3, by rw [isAgg_sw]; exact h4⟩
  ·exact .inr (by rw [isTop_sw]; exact h3)
end
theorem CV.sw {a : AV} {v : Value} (h : CV E a v) : CV (E.sw x y) (swA x y a) v := by
 cases a with
 | top => trivial
 | tup fs => obtain ⟨vs, e, h1⟩ := h; exact ⟨vs, e, CVL.sw x y fs h1⟩
 | _ => obtain ⟨cs, h1, h2⟩ := h; exact CV.mk (CC.sw x y _ h1) (by rw [isAgg_sw]; exact h2)
theorem RegsOK.sw {r : Regs} {n : Nat} {tmps : Array Value} (c : RegsOK E r n tmps) : RegsOK (E.sw x y) (swR x y r) n tmps :=
 ⟨c.1, fun t => by rw [look_swR]; exact (c.2 t).sw⟩
theorem ownB_sw {b : Blk} {j : Nat} : ownB j (swB x y b) ↔ ownB j b := by
 cases b <;> simp [swB, ownB]
theorem BOK.sw {i : Nat} {b : Blk} (h : BOK B E i b) : BOK B (E.sw x y) (swN x y i) (swB x y b) := by
 have hr : (E.sw x y).ρ (swN x y i) = E.ρ i := by show E.ρ (swN x y (swN x y i)) = _; rw [swN_swN]
 cases b with
 | box a f => obtain ⟨k, arr, e, p1, p2, p3, p4⟩ := h; exact ⟨k, arr, e, by rw [hr]; exact p1, p2, p3, CC.sw x y a p4⟩
 | row t xs l =>
  rcases h with ⟨p1, p2⟩ | ⟨k, arr, e, es, p1, p2, p3, p4, p5⟩
  ·exact .inl ⟨by rw [hr]; exact p1, p2⟩
  ·exact .inr ⟨k, arr, e, es, by rw [hr]; exact p1, p2, p3, p4, p5⟩
 | loop d j z fn n r p u v e =>
  obtain ⟨k, kd, st, tmps, p1, p2, p3, p4, p5, p6⟩ := h
  exact ⟨k, kd, st, tmps, by rw [hr]; exact p1, p2, p3, p4, p5.sw, p6⟩
 | dfr sh => exact h
theorem own_sw {k j : Nat} : Own (E.sw x y).ρ (E.sw x y).H k j ↔ Own E.ρ E.H k j := by
 constructor
 ·rintro ⟨i, b, h1, h2, h3⟩
  obtain ⟨b0, h4, rfl⟩ := hlook_sw' h1
  exact ⟨swN x y i, b0, h4, h2, ownB_sw.1 h3⟩
 ·rintro ⟨i, b, h1, h2, h3⟩
  exact ⟨swN x y i, swB x y b, by show hlook (swH x y E.H) _ = _; rw [hlook_sw, h1]; rfl, by show E.ρ (swN x y (swN x y i)) = _; rw [swN_swN]; exact h2, ownB_sw.2 h3⟩
theorem sw_goes {i : Nat} (h : swN x y i = i) : Goes E (E.sw x y) i := by
 intro b' hb'
 obtain ⟨b0, h1, rfl⟩ := hlook_sw' hb'
 rw [h] at h1
 refine ⟨b0, h1, by show E.ρ (swN x y i) = _; rw [h], by rw [skB_sw], fun t xs l e => ⟨xs, l, row_sw e.symm, rfl⟩⟩
theorem sw_stays {n : Nat} (hx : n ≤ x) (hy : n ≤ y) : Stays n E (E.sw x y) := by
 refine ⟨Mem.le.refl _, fun i hi => sw_goes (swN_low hx hy hi), fun i hi => by show E.ρ (swN x y i) = _; rw [swN_low hx hy hi], fun i c hi hc => ?_, fun _ h => h, Nat.le_refl _, fun k hk hi => ⟨fun i b hb hr => ?_, fun o ho _ => ho⟩⟩
 ·obtain ⟨d, j, z, fn, n', r, ps, e, hl⟩ := codesAt_of hc
  obtain ⟨b0, h1, h2⟩ := hlook_sw' hl
  rw [swN_low hx hy hi] at h1
  cases b0 with
  | loop d j z fn n r p u v e =>
   simp only [swB, Blk.loop.injEq] at h2
   rw [codesAt_eq h1, ← h2.2.2.2.2.2.2.2.1, ← h2.2.2.2.2.2.2.2.2.1]
  | _ => simp [swB] at h2
 ·obtain ⟨b0, h1, _⟩ := hlook_sw' hb
  exact hi _ _ h1 hr
theorem StateOK.sw (hs : StateOK B E) (hx : B.bound ≤ x) (hy : B.bound ≤ y) : StateOK B (E.sw x y) := by
 refine ⟨fun k j => (hs.wri k j).trans (or_congr Iff.rfl own_sw.symm), ⟨hs.fo.1, fun i b k j h1 h2 => ?_⟩, fun i i' b b' k h1 h2 h3 h4 => ?_, fun i b h1 => ?_, hs.memo, hs.ext, hs.reg, hs.late, fun g => ?_, hs.globm, hs.since.trans (sw_stays hx hy), hs.size0⟩
 ·obtain ⟨b0, h3, _⟩ := hlook_sw' h1
  exact hs.fo.2 _ _ _ _ h3 h2
 ·obtain ⟨b0, h5, _⟩ := hlook_sw' h1
  obtain ⟨b1, h6, _⟩ := hlook_sw' h2
  exact swN_inj (hs.inj _ _ _ _ _ h5 h6 h3 h4)
 ·obtain ⟨b0, h2, rfl⟩ := hlook_sw' h1
  have := (hs.blk _ _ h2).sw (x := x) (y := y)
  rwa [swN_swN] at this
 ·exact CV.to (E := E) (E' := E.sw x y) (Mem.le.refl _) (fun j hj => by rw [hs.globm] at hj; cases hj) (hs.glob g)
theorem FrOK.sw {f : Fr} {F : Frame} (hx : usesF x f = false) (hy : usesF y f = false) (c : FrOK E f F) : FrOK (E.sw x y) (swF x y f) F :=
 FrOK.to (E := E) (E' := E.sw x y) rfl c.regs.sw (fun g hg => by
  show E.ρ (swN x y g) = E.ρ g
  have h1 : g ≠ x := fun e => by rw [e, hx] at hg; cases hg
  have h2 : g ≠ y := fun e => by rw [e, hy] at hg; cases hg
  unfold swN
  rw [if_neg h1, if_neg h2]) (fun _ _ h => h) c
theorem callers_sw : ∀ {fs : List Fr} {Fs : List Frame}, fs.any (usesF x) = false → fs.any (usesF y) = false → All2 (FrOK E) fs Fs → All2 (FrOK (E.sw x y)) (fs.map (swF x y)) Fs
 | _, _, _, _, .nil => .nil
 | _, _, hx, hy, .cons p q => by
  simp only [List.any_cons, Bool.or_eq_false_iff] at hx hy
  exact .cons (p.sw hx.1 hy.1) (callers_sw hx.2 hy.2 q)
theorem swC_ok {c : Cf} {F : Frame} {Fs : List Frame} (hS : Sim B E c F Fs) (hx : usesS x c = false) (hy : usesS y c = false) : Sim B (E.sw x y) (swC x y c) F Fs := by
 have bx := usesS_low hS.base hx
 have by_ := usesS_low hS.base hy
 simp only [usesS, Bool.or_eq_false_iff] at hx hy
 exact ⟨by show swH x y c.heap = swH x y E.H; rw [hS.heap], hS.ok.sw bx by_, hS.fr.sw hx.1.1.1 hy.1.1.1, callers_sw hx.1.1.2 hy.1.1.2 hS.callers, hS.nd, hS.base⟩
theorem fixL_ok : ∀ (l : List (Nat × Nat)) {E : Env} {c : Cf} {F : Frame} {Fs : List Frame}, Sim B E c F Fs → ∃ E', Sim B E' (fixL l c) F Fs ∧ E'.m = E.m
 | [], E, _, _, _, hS => ⟨E, hS, rfl⟩
 | (t, z) :: l, E, c, F, Fs, hS => by
  simp only [fixL]
  split
  ·rename_i a _
   cases h : Nat.beq a z || (usesS a c || usesS z c) with
   | true => exact fixL_ok l hS
   | false =>
    simp only [Bool.or_eq_false_iff] at h
    obtain ⟨E', h1, h2⟩ := fixL_ok l (swC_ok hS h.2.1 h.2.2)
    exact ⟨E', h1, h2⟩
  ·exact fixL_ok l hS
end
end Go.Gh
/- The ghost machine: a function's contract, from its segments. Conditions: none (lemmas alone). -/
namespace Go.Gh
section
variable {R : Type} {B : Base} {cs0 : List Frame}
def Cuts (B : Base) (cs0 : List Frame) (g : Leaf → Option R) (E : Env) (F : Frame) (Fs : List Frame) (r : R) : Prop :=
 (∃ s' E' F' Fs', g (.cut s') = some r ∧ Sim B E' s' F' Fs' ∧ Steps B.cx.P (lone F (Fs ++ cs0) E.m.w) (lone F' (Fs' ++ cs0) E'.m.w) ∧ bot F' Fs' = bot F Fs) ∨
 (∃ a E' F' v, g (.out a E'.H) = some r ∧ StateOK B E' ∧ CV E' a v ∧ Steps B.cx.P (lone F (Fs ++ cs0) E.m.w) (lone F' cs0 E'.m.w) ∧ F'.leaving B.cx.P E'.m.w (.returned v) ∧ F'.fn = bot F Fs)
theorem exec_ok (hcx : CtxOK' B.cx) {cut : Cf → Bool} {g : Leaf → Option R} {r : R} : ∀ (n : Nat) {E : Env} {s : Cf} {F : Frame} {Fs : List Frame}, Sim B E s F Fs → exec B.cx cut g n s = some r → Cuts B cs0 g E F Fs r
 | 0, _, _, _, _, _, h => by simp [exec] at h
 | n + 1, E, s, F, Fs, hS, h => by
  simp only [exec] at h
  rcases step_ok (cs0 := cs0) hcx hS h with ⟨s', E', F', Fs', hk, hS', hst, hb⟩ | ⟨a, E', F', v, hk, hs', hv, hFs, hst, hl, hfn⟩
  ·simp only at hk
   split at hk
   ·exact .inl ⟨s', E', F', Fs', hk, hS', hst, hb⟩
   ·rcases exec_ok hcx n hS' hk with ⟨s2, E2, F2, Fs2, q1, q2, q3, q4⟩ | ⟨a, E2, F2, v, q1, q2, q3, q4, q5, q6⟩
    ·exact .inl ⟨s2, E2, F2, Fs2, q1, q2, hst.trans q3, q4.trans hb⟩
    ·exact .inr ⟨a, E2, F2, v, q1, q2, q3, hst.trans q4, q5, q6.trans hb⟩
  ·subst hFs
   exact .inr ⟨a, E', F', v, hk, hs', hv, hst, hl, hfn⟩
mutual
theorem Enc_plain {m m2 : Mem} : (t : Ty) → plainT t = true → ∀ {x : den t} {cs : List Value}, Enc m t x cs → Enc m2 t x cs
 | .int _, _, x, cs, h => by unfold Enc at h ⊢; exact h
 | .bool, _, x, cs, h => by unfold Enc at h ⊢; exact h
 | .struct fs, hp, x, cs, h => by unfold Enc at h ⊢; exact EncL_plain fs (by simpa [plainT] using hp) h
 | .arr n t, hp, x, cs, h => by
  unfold Enc at h ⊢
  exact ⟨h.1, h.2.mono fun x cs p => Enc_plain t (by simpa [plainT] using hp) p⟩
 | .str, hp, _, _, _ | .slice _, hp, _, _, _ | .hnd _ _, hp, _, _, _ => by simp [plainT] at hp
theorem EncL_plain {m m2 : Mem} : (ts : List Ty) → plainTL ts = true → ∀ {x : denL ts} {cs : List Value}, EncL m ts x cs → EncL m2 ts x cs
 | [], _, x, cs, h => by unfold EncL at h ⊢; exact h
 | t :: ts, hp, x, cs, h => by
  simp only [plainTL, Bool.and_eq_true] at hp
  unfold EncL at h ⊢
  obtain ⟨a, b, e, p, q⟩ := h
  exact ⟨a, b, e, Enc_plain t hp.1 p, EncL_plain ts hp.2 q⟩
end
theorem EV_plain {m m2 : Mem} {t : Ty} (hp : plainT t = true) {x : den t} {v : Value} (h : EV m t x v) : EV m2 t x v :=
 let ⟨cs, p, q⟩ := h; ⟨cs, Enc_plain t hp p, q⟩
theorem EVL_plain {m m2 : Mem} : ∀ {ts : List Ty}, plainTL ts = true → ∀ {y : denL ts} {vs : List Value}, EVL m ts y vs → EVL m2 ts y vs
 | [], _, _, _, h => h
 | t :: ts, hp, y, vs, h => by
  simp only [plainTL, Bool.and_eq_true] at hp
  obtain ⟨v, us, e, p, q⟩ := h
  exact ⟨v, us, e, EV_plain hp.1 p, EVL_plain hp.2 q⟩
def plainR : List Ty → Bool
 | .slice t :: .slice u :: ts => plainT t && plainT u && plainTL ts
 | .slice t :: ts => plainT t && plainTL ts
 | _ => false
def FreshAt (n : Nat) (w : World) (res : List Ty) (y : denL res) (v : Value) : Prop := ∃ us, FreshL n w res y us ∧ (if h : us.length = 1 then v = us[0] else v = .tuple us.toArray)
def Over (B : Base) (cs0 : List Frame) (mk : Bool) (res : List Ty) (E : Env) (F : Frame) (Fs : List Frame) (y : denL res) : Prop :=
 ∃ E' F' v, StateOK B E' ∧ (ResOK E'.m res y v ∧ (mk = true → plainR res = true → FreshAt B.w0.heap.size E'.m.w res y v)) ∧ Steps B.cx.P (lone F (Fs ++ cs0) E.m.w) (lone F' cs0 E'.m.w) ∧ F'.leaving B.cx.P E'.m.w (.returned v) ∧ F'.fn = bot F Fs
theorem outs_ok {E : Env} {a : AV} {v : Value} {as : List AV} {res : List Ty} {y : denL res} (hs : StateOK B E) (hc : CV E a v) (ho : outs a = some as) (h : toDatL E.H res as = some y) : ResOK E.m res y v := by
 unfold outs at ho
 split at ho
 ·cases ho
 ·rename_i as' hn
  cases ho
  obtain ⟨vs, rfl, h2⟩ := hc
  have hE := toDatL_EVL hs.lent h2 h
  refine ⟨vs, hE, ?_⟩
  rw [dif_neg]
  intro h1
  have := CVL.len h2
  rw [h1] at this
  match as, this with
  | [b], _ => exact hn b rfl
 ·rename_i hn
  cases ho
  match res, y, h with
  | [t], y, h =>
   have hd : toDat E.H t a = some y.1 := by
    simp only [toDatL] at h
    split at h
    ·rename_i x1 x2 h1 h2
     cases h
     exact h1
    ·cases h
   have hev := toDat_EV hs.lent hc hd
   refine ⟨[v], ⟨v, [], rfl, hev, rfl⟩, ?_⟩
   simp
  | [], _, h => simp [toDatL] at h
  | t :: u :: res, _, h =>
   simp only [toDatL] at h
   split at h
   ·rename_i x1 x2 h1 h2
    cases h2
   ·cases h
theorem outs_rows {E : Env} {a : AV} {v : Value} {as : List AV} (hc : CV E a v) (ho : outs a = some as) : ∃ vs, CVL E as vs ∧ (if h : vs.length = 1 then v = vs[0] else v = .tuple vs.toArray) := by
 unfold outs at ho
 split at ho
 ·cases ho
 ·rename_i as' hn
  cases ho
  obtain ⟨vs, rfl, h2⟩ := hc
  refine ⟨vs, h2, ?_⟩
  rw [dif_neg]
  intro h1
  have hl := CVL.len h2
  match as, vs, hl, h1 with
  | [b], _, _, _ => exact hn b rfl
  | [], [], _, h1 => simp at h1
  | [], _ :: _, hl, _ => simp at hl
  | _ :: _ :: _, _, hl, h1 => rw [h1] at hl; simp at hl
 ·rename_i hnt
  cases ho
  refine ⟨[v], ?_, by simp⟩
  unfold CVL
  refine ⟨v, [], rfl, ?_, by unfold CVL; rfl⟩
  cases a <;> first | exact .inl hc | exact .inr rfl | exact (hnt _ rfl).elim
theorem row_at {E : Env} {t : Ty} {b : AV} {v : Value} {x : List (den t)} (hs : StateOK B E) (hp : plainT t = true) (hb : isRowA b = true) (h4 : CC E b [v]) (hx : toDat E.H (.slice t) b = some x) : ∃ q, RowQ B.w0.heap.size E.m.w (.slice t) x v q ∧ ∀ k, q = some k → ∃ id bl, b = .row id ∧ hlook E.H id = some bl ∧ E.ρ id = some k := by
 cases b <;> simp [isRowA] at hb
 ·rename_i id
  simp only [toDat] at hx
  split at hx
  ·rename_i u xs l hl
   obtain ⟨e, rfl⟩ := castT_spec hx
   cases e
   unfold CC at h4
   obtain ⟨v2, e2, _, h5⟩ := h4
   obtain rfl := (List.cons.inj e2).1
   rcases h5 _ _ _ hl with ⟨_, hn, a', hv⟩ | ⟨k, cap, e, hk, hv, hcap, hsh⟩
   ·exact ⟨none, .inl ⟨rfl, hn, a', hv⟩, fun _ h => by cases h⟩
   ·rcases hs.blk _ _ hl with ⟨hk', hn⟩ | ⟨k', arr, e', es, hk', hb, hh, hr, hpre⟩
    ·rw [hk] at hk'; cases hk'
    ·rw [hk] at hk'
     cases hk'
     have hsz : arr.size = cap * size t := by
      simp only [World.shape?, hh, Option.some.injEq, Prod.mk.injEq] at hsh
      exact hsh.2
     exact ⟨some k, .inr ⟨k, cap, arr, e', es, rfl, hv, hcap, hb, hh, hsz, fun m2 => hr.mono fun x cs q => Enc_plain t hp q, hpre⟩, fun k2 h2 => by cases h2; exact ⟨id, _, rfl, hl, hk⟩⟩
  ·cases hx
 ·simp only [toDat, Option.some.injEq] at hx
  subst hx
  unfold CC at h4
  obtain ⟨a', e2⟩ := h4
  exact ⟨none, .inl ⟨rfl, rfl, a', (List.cons.inj e2).1⟩, fun _ h => by cases h⟩
theorem fresh_at {E : Env} {a : AV} {v : Value} {as : List AV} {res : List Ty} {y : denL res} (hs : StateOK B E) (hc : CV E a v) (ho : outs a = some as) (h : toDatL E.H res as = some y) (hf : frOK true res as = true) (hp : plainR res = true) : FreshAt B.w0.heap.size E.m.w res y v := by
 obtain ⟨vs, h2, h3⟩ := outs_rows hc ho
 refine ⟨vs, ?_, h3⟩
 have one : ∀ {b : AV} {v1 : Value}, isRowA b = true → ((∃ cs, CC E b cs ∧ ofCells b.isAgg cs v1) ∨ b.isTop = true) → CC E b [v1] := by
  intro b v1 hb h
  rcases h with ⟨cs, q1, q2⟩ | h
  ·exact (CV.mk q1 q2).one (by cases b <;> simp [isRowA] at hb <;> rfl) (by cases b <;> simp [isRowA, skA] at hb ⊢)
  ·cases b <;> simp [AV.isTop, isRowA] at h hb
 have single : ∀ {t : Ty} {ts : List Ty} {y : denL (.slice t :: ts)}, plainT t = true → plainTL ts = true → toDatL E.H (.slice t :: ts) as = some y → (∀ b bs, as = b :: bs → isRowA b = true) → ∃ v1 us q, vs = v1 :: us ∧ RowQ B.w0.heap.size E.m.w (.slice t) y.1 v1 q ∧ ∀ m2, EVL m2 ts y.2 us := by
  intro t ts y p1 p2 h hb
  cases as with
  | nil => simp [toDatL] at h
  | cons b bs =>
   unfold CVL at h2
   obtain ⟨v1, us, e, h4, h5⟩ := h2
   simp only [toDatL] at h
   split at h
   ·rename_i x1 x2 hx1 hx2
    cases h
    obtain ⟨q, hq, _⟩ := row_at hs p1 (hb b bs rfl) (one (hb b bs rfl) h4) hx1
    exact ⟨v1, us, q, e, hq, fun m2 => EVL_plain p2 (toDatL_EVL hs.lent h5 hx2)⟩
   ·cases h
 match res, y, h, hp, hf with
 | [.slice t], y, h, hp, hf | .slice t :: .int _ :: _, y, h, hp, hf | .slice t :: .bool :: _, y, h, hp, hf | .slice t :: .str :: _, y, h, hp, hf | .slice t :: .struct _ :: _, y, h, hp, hf | .slice t :: .arr _ _ :: _, y, h, hp, hf | .slice t :: .hnd _ _ :: _, y, h, hp, hf =>
  simp only [plainR, Bool.and_eq_true] at hp
  exact single hp.1 hp.2 h (fun b bs e => by subst e; simpa only [frOK, cond_true] using hf)
 | .slice t :: .slice u :: ts, y, h, hp, hf =>
  simp only [plainR, Bool.and_eq_true] at hp
  match as, h, hf, h2 with
  | [], h, _, _ => simp [toDatL] at h
  | [b], h, _, _ => simp [toDatL] at h
  | b :: c :: bs, h, hf, h2 =>
   simp only [frOK, cond_true, Bool.and_eq_true] at hf
   unfold CVL at h2
   obtain ⟨v1, us1, e1, h4, h5⟩ := h2
   unfold CVL at h5
   obtain ⟨v2, us, e2, h6, h7⟩ := h5
   simp only [toDatL] at h
   split at h
   ·rename_i x1 x2 hx1 hx2
    cases h
    split at hx2
    ·rename_i x3 x4 hx3 hx4
     cases hx2
     obtain ⟨q1, r1, d1⟩ := row_at hs hp.1.1 hf.1.1 (one hf.1.1 h4) hx1
     obtain ⟨q2, r2, d2⟩ := row_at hs hp.1.2 hf.1.2 (one hf.1.2 h6) hx3
     refine ⟨v1, v2, us, q1, q2, by rw [e1, e2], r1, r2, fun k g1 g2 => ?_, fun m2 => EVL_plain hp.2 (toDatL_EVL hs.lent h7 hx4)⟩
     obtain ⟨i, b1, rfl, l1, l2⟩ := d1 k g1
     obtain ⟨j, b2, rfl, l3, l4⟩ := d2 k g2
     have := hs.inj _ _ _ _ _ l1 l3 l2 l4
     subst this
     simp [apartA] at hf
    ·cases hx2
   ·cases h
theorem leaf_out {l : List Spec} {res : List Ty} {G : (n : Nat) → Kept → denK (specAt l n) → Option (denL res)} {E E' : Env} {F F' : Frame} {Fs : List Frame} {a : AV} {v : Value} {y : denL res} (h : leafK l res some G (.out a E'.H) = some y) (hs : StateOK B E') (hv : CV E' a v)
  (hst : Steps B.cx.P (lone F (Fs ++ cs0) E.m.w) (lone F' cs0 E'.m.w)) (hl : F'.leaving B.cx.P E'.m.w (.returned v)) (hfn : F'.fn = bot F Fs) : Over B cs0 (hasMark l) res E F Fs y := by
 simp only [leafK] at h
 split at h
 ·rename_i as has
  cases hf : frOK (hasMark l) res as with
  | false => rw [hf] at h; cases h
  | true =>
   rw [hf, cond_true] at h
   split at h
   ·rename_i y' hy
    cases h
    have hless := lendA_less a E'.H
    have hs' := hs.less hless
    exact ⟨E'.less B (lendA a E'.H), F', v, hs', ⟨outs_ok hs' (CV.less hs hless hv) has hy, fun hm hp => fresh_at hs' (CV.less hs hless hv) has hy (by rw [hm] at hf; exact hf) hp⟩, hst, hl, hfn⟩
   ·cases h
 ·cases h
theorem iter_ok (hcx : CtxOK' B.cx) {l : List Spec} {res : List Ty} {fuel : Nat} : ∀ (k : Nat) {n : Nat} {E : Env} {c : Cf} {F : Frame} {Fs : List Frame} {x : denK (specAt l n)} {y : denL res}, Sim B E c F Fs → decK (specAt l n) c = some x → iter B.cx l res fuel k n (keptOf (specAt l n) c) x = some y →
  Over B cs0 (hasMark l) res E F Fs y
 | 0, _, _, _, _, _, _, _, _, _, h => by simp [iter] at h
 | k + 1, n, E, c, F, Fs, x, y, hS, hd, h => by
  obtain ⟨E1, hS1, hw⟩ := decK_ok hS hd
  simp only [iter, seg] at h
  rcases exec_ok (cs0 := cs0) hcx fuel hS1 h with ⟨s2, E2, F2, Fs2, q1, q2, q3, q4⟩ | ⟨a, E2, F2, v, q1, q2, q3, q4, q5, q6⟩
  ·simp only [leafK] at q1
   split at q1
   ·rename_i m hm
    split at q1
    ·rename_i z hz
     obtain ⟨E2b, q2b, e2b⟩ := fixL_ok (specAt l m).ren q2
     obtain ⟨E3, F3, v, p1, p2, p3, p4, p5⟩ := iter_ok hcx k q2b hz q1
     rw [e2b] at p3
     rw [hw] at q3
     exact ⟨E3, F3, v, p1, p2, q3.trans p3, p4, p5.trans q4⟩
    ·cases q1
   ·cases q1
  ·rw [hw] at q4
   exact leaf_out q1 q2 q3 q4 q5 q6
theorem enter_over (hcx : CtxOK' B.cx) {l : List Spec} {res : List Ty} {fuel k : Nat} {f : FuncId} {ts : List Ty} {x : denL ts} {y : denL res} {E : Env} {vs : List Value} (hs : StateOK B E) (hbase : 0 = B.base) (hH : E.H = []) (hv : EVL E.m ts x vs)
  (h : enter B.cx l res fuel some (iter B.cx l res fuel k) f ts x = some y) : Over B cs0 (hasMark l) res E (Frame.enter B.cx.P f vs.toArray .normal) [] y := by
 unfold enter at h
 split at h
 ·rename_i fn hfn
  split at h
  ·rename_i c hc
   cases hle : Nat.ble ts.length fn.ntmps with
   | false => rw [hle] at h; cases h
   | true =>
    rw [hle, cond_true] at h
    have hlen : ∀ (ts : List Ty) (x : denL ts), (datAVs ts x).length = ts.length := by
     intro ts
     induction ts with
     | nil => intro x; rfl
     | cons t ts ih => intro x; show (datAVs ts x.2).length + 1 = _; rw [ih]; rfl
    have hent := enter_ok hfn hc (EVL_CVL hv) (by rw [hlen]; exact Nat.le_of_ble_eq_true hle)
    rw [hlen] at hent
    have hS : Sim B E (entryCf f fn.ntmps c ts x) (Frame.enter B.cx.P f vs.toArray .normal) [] := ⟨hH.symm, hs, hent, .nil, Nd.push enter_defers ⟨.nil, fun _ h => absurd h List.not_mem_nil⟩, hbase⟩
    rcases exec_ok (cs0 := cs0) hcx fuel hS h with ⟨s2, E2, F2, Fs2, q1, q2, q3, q4⟩ | ⟨a, E2, F2, v, q1, q2, q3, q4, q5, q6⟩
    ·simp only [leafK] at q1
     split at q1
     ·rename_i m hm
      split at q1
      ·rename_i z hz
       obtain ⟨E2b, q2b, e2b⟩ := fixL_ok (specAt l m).ren q2
       obtain ⟨E3, F3, v, p1, p2, p3, p4, p5⟩ := iter_ok (cs0 := cs0) hcx k q2b hz q1
       rw [e2b] at p3
       exact ⟨E3, F3, v, p1, p2, q3.trans p3, p4, p5.trans q4⟩
      ·cases q1
     ·cases q1
    ·exact leaf_out q1 q2 q3 q4 q5 q6
  ·cases h
 ·cases h
end
theorem con_of {cx : Ctx} (hcx : CtxOK' cx) {f : FuncId} {c : Con} (l : List Spec) (fuel : Nat) (h : ∀ x y, c.f x = some y → ∃ k, enter cx l c.res fuel some (iter cx l c.res fuel k) f c.args x = some y) : ConOK cx f c := by
 intro m x y vs hf hv hmut hM hglob hmemo cs
 obtain ⟨k, hk⟩ := h x y hf
 let E : Env := ⟨m, fun _ => none, []⟩
 let B : Base := { cx, w0 := m.w, Fo := m.Mut, M0 := m.M, E0 := E, base := 0 }
 have hs : StateOK B E := by
  refine ⟨fun k j => ⟨.inl, fun h => ?_⟩, ⟨hmut, fun id b k j h => by simp [E, hlook] at h⟩, fun id id' b b' k h => by simp [E, hlook] at h, fun id b h => by simp [E, hlook] at h, hmemo, ⟨Nat.le_refl _, rfl, rfl, rfl, fun _ _ => .inl rfl⟩, fun _ _ h => h, fun k x h h' => ?_, hglob, hcx.globm, Stays.refl _ _, Nat.le_refl _⟩
  ·rcases h with h | ⟨id, b, h, _⟩
   ·exact h
   ·simp [E, hlook] at h
  ·rw [show E.m.M k = B.M0 k from rfl, h'] at h; cases h
 obtain ⟨E', F', v, p1, p2, p3, p4, p5⟩ := enter_over (B := B) (cs0 := cs) hcx hs rfl rfl hv hk
 have hle : E'.m.le ⟨E'.m.w, m.Mut, E'.m.M⟩ := ⟨fun k j v hc hn => ⟨hc, fun h => hn ((p1.wri k j).2 (.inl h))⟩, fun _ _ h => h, fun _ _ h => h⟩
 refine ⟨.returned v, E'.m.w, F', ⟨v, E'.m.M, rfl, p2.1.mono hle, p1.ext, p1.reg, fun k z h h' => p1.late k z h h', ?_⟩, p3, ?_, p4⟩
 ·intro km i t y hk
  obtain ⟨es, clock, mm, x, h1, h2, h3, h4⟩ := p1.memo km i t y hk
  exact ⟨es, clock, mm, x, h1, h2, h3, fun e he => let ⟨kx, vx, a, b, c⟩ := h4 e he; ⟨kx, vx, a.mono hle, b.mono hle, c⟩⟩
 ·rw [p5]
  show (Frame.enter cx.P f vs.toArray .normal).fn = f
  rfl
end Go.Gh
/- The ghost machine: contracts made of what the ghost comes to, for all great enough bounds. Conditions: none (lemmas alone). -/
namespace Go.Gh
def Ev (p : Nat → Prop) : Prop := ∃ k0, ∀ k, k0 ≤ k → p k
theorem Ev.mono {p q : Nat → Prop} (h : ∀ k, p k → q k) (e : Ev p) : Ev q := let ⟨k0, h0⟩ := e; ⟨k0, fun k hk => h k (h0 k hk)⟩
theorem Ev.and {p q : Nat → Prop} (a : Ev p) (b : Ev q) : Ev (fun k => p k ∧ q k) :=
 let ⟨i, hi⟩ := a; let ⟨j, hj⟩ := b
 ⟨max i j, fun k hk => ⟨hi k (by omega), hj k (by omega)⟩⟩
theorem Ev.all {p : Nat → Prop} (h : ∀ k, p k) : Ev p := ⟨0, fun k _ => h k⟩
theorem Ev.succ {p : Nat → Prop} (e : Ev (fun k => p (k + 1))) : Ev p := by
 obtain ⟨k0, h0⟩ := e
 refine ⟨k0 + 1, fun k hk => ?_⟩
 obtain ⟨k, rfl⟩ : ∃ j, k = j + 1 := ⟨k - 1, by omega⟩
 exact h0 k (by omega)
theorem Ev.ex {p : Nat → Prop} (e : Ev p) : ∃ k, p k := let ⟨k0, h0⟩ := e; ⟨k0, h0 k0 (Nat.le_refl _)⟩
open Classical in
noncomputable def runOf {α : Type} (f : Nat → Option α) : Option α := if h : ∃ y, Ev (fun k => f k = some y) then some (Classical.choose h) else none
theorem runOf_eq {α : Type} {f : Nat → Option α} {y : α} (h : Ev (fun k => f k = some y)) : runOf f = some y := by
 have hex : ∃ y, Ev (fun k => f k = some y) := ⟨y, h⟩
 unfold runOf
 rw [dif_pos hex]
 obtain ⟨k, h1, h2⟩ := (h.and (Classical.choose_spec hex)).ex
 rw [h1] at h2
 exact h2.symm
theorem runOf_ex {α : Type} {f : Nat → Option α} {y : α} (h : runOf f = some y) : ∃ k, f k = some y := by
 unfold runOf at h
 split at h
 ·rename_i hex
  cases h
  exact (Classical.choose_spec hex).ex
 ·cases h
noncomputable def ghost (cx : Ctx) (l : List Spec) (fuel : Nat) (f : FuncId) (args res : List Ty) (x : denL args) : Option (denL res) :=
 runOf fun k => enter cx l res fuel some (iter cx l res fuel k) f args x
theorem ghost_ok {cx : Ctx} (hcx : CtxOK' cx) (l : List Spec) (fuel : Nat) (f : FuncId) (args res : List Ty) : ConOK cx f ⟨args, res, ghost cx l fuel f args res⟩ :=
 con_of hcx l fuel fun _ _ h => runOf_ex h
theorem ghost_eq {cx : Ctx} {l : List Spec} {fuel : Nat} {f : FuncId} {args res : List Ty} {x : denL args} {y : denL res} (h : Ev fun k => enter cx l res fuel some (iter cx l res fuel k) f args x = some y) : ghost cx l fuel f args res x = some y :=
 runOf_eq h
theorem iter_ev {cx : Ctx} {l : List Spec} {fuel : Nat} {res : List Ty} {n : Nat} {kp : Kept} {x : denK (specAt l n)} {y : denL res} (h : Ev fun k => seg cx l res fuel some (iter cx l res fuel k) n kp x = some y) : Ev fun k => iter cx l res fuel k n kp x = some y :=
 .succ h
def Ctx.add (cx : Ctx) (f : FuncId) (c : Con) : Ctx := { cx with con := fun g => cond (Nat.beq g f) (some c) (cx.con g) }
theorem CtxOK'.add {cx : Ctx} (h : CtxOK' cx) {f : FuncId} {c : Con} (hc : ConOK cx f c) (hf : ∃ fn, cx.P.funcs[f]? = some fn ∧ fn.name ≠ "runtime.NumGoroutine" ∧ fn.body.isNone = false) : CtxOK' (cx.add f c) := by
 refine ⟨⟨⟨h.te, fun g d hd => ?_, h.rcon, h.cst⟩, h.map, h.inl, h.mixed, h.globm⟩, h.sub, h.fcon⟩
 simp only [Ctx.add] at hd
 cases hq : Nat.beq g f with
 | true =>
  rw [hq] at hd
  cases hd
  have := Nat.eq_of_beq_eq_true hq
  subst this
  exact ⟨hc, hf⟩
 | false =>
  rw [hq] at hd
  obtain ⟨h1, h2⟩ := h.con g d hd
  exact ⟨h1, h2⟩
end Go.Gh
/- The ghost machine: closures that call themselves, told by what they do to the heap. Conditions: none (definitions, and lemmas on them). -/
namespace Go.Gh
section
variable {B : Base} {E : Env}
theorem StateOK.cx (hs : StateOK B E) {cx : Ctx} (hm : cx.memo = B.cx.memo) (hg : cx.glob = B.cx.glob) : StateOK { B with cx := cx } E := by
 refine ⟨hs.wri, hs.fo, hs.inj, fun id b h => hs.blk id b h, ?_, hs.ext, hs.reg, hs.late, ?_, ?_, hs.since, hs.size0⟩
 ·intro km i t y hk
  obtain ⟨es, clock, mm, x, h1, h2, h3⟩ := hs.memo km i t y hk
  exact ⟨es, clock, mm, x, h1, by rw [show ({ B with cx := cx } : Base).cx.memo = _ from hm]; exact h2, h3⟩
 ·intro g
  rw [show ({ B with cx := cx } : Base).cx.glob = _ from hg]
  exact hs.glob g
 ·intro g id
  rw [show ({ B with cx := cx } : Base).cx.glob = _ from hg]
  exact hs.globm g id
theorem Sim.cx {s : Cf} {F : Frame} {Fs : List Frame} (h : Sim B E s F Fs) {cx : Ctx} (hm : cx.memo = B.cx.memo) (hg : cx.glob = B.cx.glob) : Sim { B with cx := cx } E s F Fs :=
 ⟨h.heap, h.ok.cx hm hg, h.fr, h.callers, h.nd, h.base⟩
variable {cs0 : List Frame}
theorem Ev.sub {α β : Type} {f : Nat → Option α} {g : Nat → α → Option β} {y : α} {z : β} (h : Ev fun k => f k = some y) (h' : Ev fun k => g k y = some z) : Ev fun k => Option.bind (f k) (g k) = some z :=
 (h.and h').mono fun k ⟨a, b⟩ => by rw [a]; exact b
end
end Go.Gh
/- The ghost machine: contracts of functions that read through pointers. Conditions: none (definitions, and lemmas on them). -/
namespace Go.Gh
section
variable {B : Base} {cs0 : List Frame}
end
theorem CtxOK'.setRows {cx : Ctx} (h : CtxOK' cx) (p : Nat → Bool) : CtxOK' { cx with rows := p } :=
 ⟨⟨⟨h.te, h.con, h.rcon, h.cst⟩, h.map, h.inl, h.mixed, h.globm⟩, h.sub, h.fcon⟩
theorem CtxOK'.setTwin {cx : Ctx} (h : CtxOK' cx) (p : Nat → Bool) : CtxOK' { cx with twin := p } :=
 ⟨⟨⟨h.te, h.con, h.rcon, h.cst⟩, h.map, h.inl, h.mixed, h.globm⟩, h.sub, h.fcon⟩
end Go.Gh
/- The ghost machine: places in a function's code. Conditions: none (definitions alone). -/
namespace Go.Gh
def Code.child : Code → Nat → Code
 | .seq a b, k => cond (Nat.beq k 0) a b
 | .cond _ a b, k => cond (Nat.beq k 0) a b
 | .block _ b, _ => b
 | .loop b, _ => b
 | .scope b, _ => b
 | .rangeFunc _ _ a b, k => cond (Nat.beq k 0) a b
 | _, _ => .skip
def Code.sub : Code → List Nat → Code
 | c, [] => c
 | c, k :: p => Code.sub (Code.child c k) p
def Code.ops : Code → Array Oper
 | .region _ ops _ => ops
 | _ => #[]
def cAt (f : Func) (p : List Nat) : Code := Code.sub (f.body.getD .skip) p
def oAt (f : Func) (p : List Nat) : Array Oper := Code.ops (cAt f p)
end Go.Gh
/- The ghost machine: a seat's types, checked by program. Conditions: none (lemmas alone). -/
namespace Go.Gh
def tyFits (P : Program) (T : TypeId) (t : Ty) : Bool :=
 match P.underlying T, P.info? T with
 | some d, some i => isAggD d == t.isAgg && Nat.beq i.size (size t)
 | _, _ => false
mutual
def eqOK (P : Program) : Nat → TypeId → Ty → Bool
 | 0, _, _ => false
 | _ + 1, T, .int _ => match P.underlying T with | some (.int _) => true | _ => false
 | _ + 1, T, .bool => match P.underlying T with | some .bool => true | _ => false
 | _ + 1, T, .str => match P.underlying T with | some .string => true | _ => false
 | d + 1, T, .struct fs => (match P.underlying T with | some (.struct ffs) => eqFs P d ffs.toList fs 0 | _ => false) && !P.stoodInHeld T
 | d + 1, T, .arr n t => match P.underlying T with | some (.array m e) => Nat.beq n m && tyFits P e t && eqOK P d e t | _ => false
 | _, _, _ => false
def eqFs (P : Program) : Nat → List Field → List Ty → Nat → Bool
 | _, [], [], _ => true
 | d, f :: fl, t :: ts, o => !(f.name == "_") && Nat.beq f.offset o && tyFits P f.type t && eqOK P d f.type t && eqFs P d fl ts (o + size t)
 | _, _, _, _ => false
end
theorem fits_part {P : Program} {T : TypeId} {t : Ty} (h : tyFits P T t = true) {m : Mem} {x : den t} {pa a pb : List Value} (he : Enc m t x a) (w : World) :
  ∃ v, (part T (pa ++ (a ++ pb)).toArray pa.length).run P w = .ok v w ∧ EV m t x v := by
 unfold tyFits at h
 split at h
 ·rename_i d i hd hi
  rw [Bool.and_eq_true, beq_iff_eq] at h
  have hs := Nat.eq_of_beq_eq_true h.2
  have hlen := Enc.len t he
  unfold part
  simp only [Sem.run_bind, run_isa hd, Result.andThen_ok, h.1]
  cases hag : t.isAgg with
  | true =>
   simp only [if_true, Sem.run_bind, run_siz hi, Result.andThen_ok, Sem.run_pure, hs]
   refine ⟨_, rfl, a, he, ?_⟩
   rw [hag]
   simp only [ofCells, if_true, List.extract_toArray, ← hlen]
   congr 1
   simp [List.extract]
  | false =>
   simp only [Bool.false_eq_true, if_false]
   have h1 : a.length = 1 := by
    rw [hlen]
    cases t <;> first | rfl | simp [Ty.isAgg] at hag
   match a, h1 with
   | [v], _ =>
    refine ⟨v, ?_, [v], he, ?_⟩
    ·simp
    ·rw [hag]; simp [ofCells]
 ·cases h
mutual
theorem eqIn_ok {P : Program} : ∀ (d : Nat) (T : TypeId) (t : Ty), eqOK P d T t = true → ∀ (m : Mem) (x y : den t) (u v : Value) (w : World), EV m t x u → EV m t y v → (Op.equalIn d T u v).run P w = .ok (eqD t x y) w
 | 0, _, _, h => by simp [eqOK] at h
 | d + 1, T, .int k, h => by
  intro m x y u v w ⟨a, ha, hu⟩ ⟨b, hb, hv⟩
  simp only [eqOK] at h
  unfold Enc at ha hb
  subst ha; subst hb
  simp only [ofCells, Ty.isAgg, Bool.false_eq_true, if_false, List.cons.injEq, and_true] at hu hv
  subst hu; subst hv
  split at h
  ·rename_i k' hd
   rw [run_equalIn_int w d T k k' x y hd]
   simp only [eqD]
  ·cases h
 | d + 1, T, .bool, h => by
  intro m x y u v w ⟨a, ha, hu⟩ ⟨b, hb, hv⟩
  simp only [eqOK] at h
  unfold Enc at ha hb
  subst ha; subst hb
  simp only [ofCells, Ty.isAgg, Bool.false_eq_true, if_false, List.cons.injEq, and_true] at hu hv
  subst hu; subst hv
  split at h
  ·rename_i hd
   rw [run_equalIn_bool' w d T x y hd]
   simp only [eqD]
  ·cases h
 | d + 1, T, .str, h => by
  intro m x y u v w ⟨a, ha, hu⟩ ⟨b, hb, hv⟩
  simp only [eqOK] at h
  unfold Enc at ha hb
  subst ha; subst hb
  simp only [ofCells, Ty.isAgg, Bool.false_eq_true, if_false, List.cons.injEq, and_true] at hu hv
  subst hu; subst hv
  split at h
  ·rename_i hd
   rw [run_equalIn_string w d T x y hd]
   simp only [eqD]
  ·cases h
 | d + 1, T, .struct fs, h => by
  intro m x y u v w ⟨a, ha, hu⟩ ⟨b, hb, hv⟩
  simp only [eqOK, Bool.and_eq_true, Bool.not_eq_true'] at h
  unfold Enc at ha hb
  simp only [ofCells, Ty.isAgg, if_true] at hu hv
  subst hu; subst hv
  obtain ⟨h1, h2⟩ := h
  split at h1
  ·rename_i ffs hd
   have hf : P.fieldsOf T = ffs := by simp [Program.fieldsOf, hd]
   rw [run_equalIn_struct w d T _ _ (by rw [hf]; exact hd) h2, hf]
   have := eqFs_ok d ffs.toList fs 0 h1 m x y [] [] a b w ha hb rfl rfl
   simpa [eqD] using this
  ·cases h1
 | d + 1, T, .arr n t, h => by
  intro m x y u v w ⟨a, ha, hu⟩ ⟨b, hb, hv⟩
  simp only [eqOK] at h
  unfold Enc at ha hb
  simp only [ofCells, Ty.isAgg, if_true] at hu hv
  subst hu; subst hv
  split at h
  ·rename_i k e hd
   simp only [Bool.and_eq_true] at h
   obtain ⟨⟨h1, h2⟩, h3⟩ := h
   have hn := Nat.eq_of_beq_eq_true h1
   subst hn
   have hsz : ∃ i, P.info? e = some i ∧ i.size = size t := by
    unfold tyFits at h2
    split at h2
    ·rename_i d' i _ hi
     rw [Bool.and_eq_true] at h2
     exact ⟨i, hi, Nat.eq_of_beq_eq_true h2.2⟩
    ·cases h2
   obtain ⟨i, hi, his⟩ := hsz
   have ih := eqIn_ok d e t h3
   simp only [Op.equalIn, Sem.run_bind, run_underlying hd, Result.andThen_ok, run_siz hi, his, eqD]
   rw [Std.Legacy.Range.forIn_eq_forIn_range']
   simp only [Std.Legacy.Range.size, Nat.sub_zero, Nat.add_sub_cancel, Nat.div_one]
   have loop : ∀ (c j : Nat) (xs ys : List (den t)) (pa pb a b : List Value) (w : World), pa.length = j * size t → pb.length = j * size t → Rows (Enc m t) xs a → Rows (Enc m t) ys b → List.length xs = c → List.length ys = c →
     ((forIn (List.range' j c) ((none : Option Bool), ()) fun i r => do
       let __do_lift ← part e (pa ++ a).toArray (i * size t)
       let __do_lift_1 ← part e (pb ++ b).toArray (i * size t)
       let __do_lift ← Op.equalIn d e __do_lift __do_lift_1
       if (!__do_lift) = true then pure (ForInStep.done (some false, ())) else pure (ForInStep.yield (none, ())) : Sem (Option Bool × Unit))).run P w = .ok (if eqDs t xs ys then none else some false, ()) w := by
    intro c
    induction c with
    | zero =>
     intro j xs ys pa pb a b w _ _ _ _ hx hy
     have := List.length_eq_zero_iff.1 hx
     have := List.length_eq_zero_iff.1 hy
     subst_vars
     simp [eqDs]
    | succ c ihc =>
     intro j xs ys pa pb a b w hpa hpb ha hb hx hy
     match xs, ys, hx, hy with
     | x :: xs, y :: ys, hx, hy =>
      obtain ⟨a1, a2, rfl, p1, p2⟩ := ha
      obtain ⟨b1, b2, rfl, q1, q2⟩ := hb
      obtain ⟨v1, r1, e1⟩ := fits_part h2 (pa := pa) (pb := a2) p1 w
      obtain ⟨v2, r2, e2⟩ := fits_part h2 (pa := pb) (pb := b2) q1 w
      rw [List.range'_succ, List.forIn_cons]
      rw [hpa] at r1
      rw [hpb] at r2
      simp only [Sem.run_bind, r1, r2, Result.andThen_ok, ih m x y v1 v2 w e1 e2]
      cases hq : eqD t x y with
      | false => simp [eqDs, hq]
      | true =>
       simp only [Bool.not_true, Bool.false_eq_true, if_false, Sem.run_pure, Result.andThen_ok]
       have l1 := Enc.len t p1
       have l2 := Enc.len t q1
       have := ihc (j + 1) xs ys (pa ++ a1) (pb ++ b1) a2 b2 w (by simp [hpa, l1, Nat.add_mul]) (by simp [hpb, l2, Nat.add_mul]) p2 q2 (by simpa using hx) (by simpa using hy)
       simp only [List.append_assoc] at this
       rw [this]
       simp [eqDs, hq]
   have := loop n 0 x y [] [] a b w (by simp) (by simp) ha.2 hb.2 ha.1 hb.1
   simp only [List.nil_append] at this
   rw [this]
   simp only [Result.andThen_ok]
   cases hq : eqDs t x y <;> simp
  ·cases h
 | d + 1, T, .slice t, h => by simp [eqOK] at h
 | d + 1, T, .hnd i t, h => by simp [eqOK] at h
theorem eqFs_ok {P : Program} : ∀ (d : Nat) (fl : List Field) (ts : List Ty) (o : Nat), eqFs P d fl ts o = true → ∀ (m : Mem) (x y : denL ts) (pa pb a b : List Value) (w : World), EncL m ts x a → EncL m ts y b → pa.length = o → pb.length = o →
  (Op.eqFields d (pa ++ a).toArray (pb ++ b).toArray fl).run P w = .ok (eqDL ts x y) w
 | d, [], [], o, h => by
  intro m x y pa pb a b w _ _ _ _
  simp [Op.eqFields, eqDL]
 | d, f :: fl, t :: ts, o, h => by
  intro m x y pa pb a b w ha hb hpa hpb
  simp only [eqFs, Bool.and_eq_true, Bool.not_eq_true', beq_eq_false_iff_ne, ne_eq] at h
  obtain ⟨⟨⟨⟨h1, h2⟩, h3⟩, h4⟩, h5⟩ := h
  have h2 := Nat.eq_of_beq_eq_true h2
  unfold EncL at ha hb
  obtain ⟨a1, a2, rfl, p1, p2⟩ := ha
  obtain ⟨b1, b2, rfl, q1, q2⟩ := hb
  obtain ⟨v1, r1, e1⟩ := fits_part h3 (pa := pa) (pb := a2) p1 w
  obtain ⟨v2, r2, e2⟩ := fits_part h3 (pa := pb) (pb := b2) q1 w
  simp only [Op.eqFields, ne_eq, h1, not_false_eq_true, if_true]
  rw [hpa] at r1
  rw [hpb] at r2
  simp only [Sem.run_bind, h2, r1, r2, Result.andThen_ok, eqIn_ok d f.type t h4 m x.1 y.1 v1 v2 w e1 e2, eqDL]
  cases hq : eqD t x.1 y.1 with
  | false => simp
  | true =>
   simp only [Bool.not_true, Bool.false_eq_true, if_false, Bool.true_and]
   have l1 := Enc.len t p1
   have l2 := Enc.len t q1
   have := eqFs_ok d fl ts (o + size t) h5 m x.2 y.2 (pa ++ a1) (pb ++ b1) a2 b2 w p2 q2 (by simp [hpa, l1]) (by simp [hpb, l2])
   simpa only [List.append_assoc] using this
 | _, [], _ :: _, _, h => by simp [eqFs] at h
 | _, _ :: _, [], _, h => by simp [eqFs] at h
end
theorem eqTy_of {P : Program} {T : TypeId} {t : Ty} (h : eqOK P Op.maxDepth T t = true) (hg : t.isAgg = true → P.eqGuardType P.depth T = false) : EqTy P T t := by
 refine ⟨fun m x y u v w hx hy => eqIn_ok _ T t h m x y u v w hx hy, hg, fun i s e => ?_, fun s e => ?_⟩
 ·subst e; simp [eqOK, Op.maxDepth] at h
 ·subst e; simp [eqOK, Op.maxDepth] at h
def dokB (P : Program) : TD → TypeDesc → Bool
 | .int k, .int k' => decide (k' = k)
 | .struct offs szs, .struct fs => Nat.beq fs.size offs.length && Nat.beq fs.size szs.length && (List.range offs.length).all fun k => match offs[k]?, (fs : Array Field)[k]?, szs[k]? with
   | some off, some f, some sz => Nat.beq f.offset off && (match P.info? f.type with | some i => !Nat.beq i.size 0 && Nat.beq i.size sz | none => false)
   | _, _, _ => false
 | .array n e esz, .array m e' => Nat.beq m n && Nat.beq e' e && (match P.info? e with | some i => Nat.beq i.size esz | none => false)
 | .slice e esz, .slice e' => Nat.beq e' e && (match P.info? e with | some i => Nat.beq i.size esz && Nat.ble i.bytes 65536 | none => false)
 | .other, _ => true
 | _, _ => false
theorem dokB_ok {P : Program} {td : TD} {d : TypeDesc} (h : dokB P td d = true) : DOK P td d := by
 unfold dokB at h
 split at h
 ·have := of_decide_eq_true h
  subst this
  exact rfl
 ·rename_i offs szs fs
  simp only [Bool.and_eq_true, List.all_eq_true] at h
  obtain ⟨⟨h1, h2⟩, h3⟩ := h
  refine ⟨fs, rfl, Nat.eq_of_beq_eq_true h1, Nat.eq_of_beq_eq_true h2, fun k off hk => ?_⟩
  have h4 := h3 k (by simpa using (List.getElem?_eq_some_iff.1 hk).1)
  rw [hk] at h4
  split at h4
  ·rename_i off' f sz e1 e2 e3
   cases e1
   rw [Bool.and_eq_true] at h4
   obtain ⟨h4, h5⟩ := h4
   split at h5
   ·rename_i i hi
    simp only [Bool.and_eq_true, Bool.not_eq_true'] at h5
    refine ⟨f, i, e2, Nat.eq_of_beq_eq_true h4, hi, fun e => ?_, by rw [e3, Nat.eq_of_beq_eq_true h5.2]⟩
    rw [e] at h5; simp at h5
   ·cases h5
  ·cases h4
 ·simp only [Bool.and_eq_true] at h
  obtain ⟨⟨h1, h2⟩, h3⟩ := h
  have := Nat.eq_of_beq_eq_true h1
  have := Nat.eq_of_beq_eq_true h2
  subst_vars
  split at h3
  ·rename_i i hi
   exact ⟨rfl, i, hi, Nat.eq_of_beq_eq_true h3⟩
  ·cases h3
 ·simp only [Bool.and_eq_true] at h
  obtain ⟨h2, h3⟩ := h
  have := Nat.eq_of_beq_eq_true h2
  subst_vars
  split at h3
  ·rename_i i hi
   rw [Bool.and_eq_true] at h3
   exact ⟨rfl, i, hi, Nat.eq_of_beq_eq_true h3.1, Nat.le_of_ble_eq_true h3.2⟩
  ·cases h3
 ·trivial
 ·cases h
inductive Zr where
 | dat (t : Ty)
 | agg (l : List Zr) | arrL (l : List Zr)
 | nilsl | nilp | nilf | nilm
mutual
def Zr.av : Zr → AV
 | .dat t => .dat t (dflt t)
 | .agg l => .agg (Zr.avL l)
 | .arrL l => .arrL (Zr.avL l)
 | .nilsl => .nilsl
 | .nilp => .nilp
 | .nilf => .nilf
 | .nilm => .nilm
def Zr.avL : List Zr → List AV
 | [] => []
 | a :: l => Zr.av a :: Zr.avL l
end
mutual
def zT : Ty → List Value
 | .int k => [.int k 0]
 | .bool => [.bool false]
 | .str => [.string ByteArray.empty]
 | .struct fs => zTL fs
 | .arr n t => (List.replicate n (zT t)).flatten
 | .slice _ => [.slice none 0 0]
 | .hnd _ _ => [.pointer none]
def zTL : List Ty → List Value
 | [] => []
 | t :: ts => zT t ++ zTL ts
end
mutual
def Zr.cells : Zr → List Value
 | .dat t => zT t
 | .agg l => Zr.cellsL l
 | .arrL l => Zr.cellsL l
 | .nilsl => [.slice none 0 0]
 | .nilp => [.pointer none]
 | .nilf => [.nilFunc]
 | .nilm => [.map none]
def Zr.cellsL : List Zr → List Value
 | [] => []
 | a :: l => Zr.cells a ++ Zr.cellsL l
end
mutual
theorem zT_ok (m : Mem) : (t : Ty) → Enc m t (dflt t) (zT t)
 | .int k => by unfold Enc; rfl
 | .bool => by unfold Enc; rfl
 | .str => by unfold Enc; rfl
 | .struct fs => by unfold Enc; exact zTL_ok m fs
 | .arr n t => by
  unfold Enc
  refine ⟨by simp [dflt], ?_⟩
  simp only [dflt, zT]
  have ih := zT_ok m t
  induction n with
  | zero => simp [Rows]
  | succ n ih' =>
   rw [List.replicate_succ, List.replicate_succ, List.flatten_cons]
   exact ⟨_, _, rfl, ih, ih'⟩
 | .slice t => by unfold Enc; exact ⟨none, 0, by simp [dflt, zT], by simp [dflt], fun h => absurd rfl h⟩
 | .hnd i t => by simp only [dflt]; unfold Enc; rfl
theorem zTL_ok (m : Mem) : (ts : List Ty) → EncL m ts (dfltL ts) (zTL ts)
 | [] => by unfold EncL; rfl
 | t :: ts => by unfold EncL; exact ⟨_, _, rfl, zT_ok m t, zTL_ok m ts⟩
end
mutual
theorem Zr.cc (E : Env) : (z : Zr) → CC E z.av z.cells
 | .dat t => by simp only [Zr.av]; unfold CC; exact zT_ok E.m t
 | .agg l => by simp only [Zr.av]; unfold CC; exact Zr.ccL E l
 | .arrL l => by simp only [Zr.av]; unfold CC; exact Zr.ccL E l
 | .nilsl => by simp only [Zr.av]; unfold CC; exact ⟨none, rfl⟩
 | .nilp => by simp only [Zr.av]; unfold CC; rfl
 | .nilf => by simp only [Zr.av]; unfold CC; rfl
 | .nilm => by simp only [Zr.av]; unfold CC; rfl
theorem Zr.ccL (E : Env) : (l : List Zr) → CCL E (Zr.avL l) (Zr.cellsL l)
 | [] => by unfold CCL Zr.avL; rfl
 | a :: l => by
  simp only [Zr.avL]
  unfold CCL
  exact ⟨_, _, rfl, Zr.cc E a, Zr.ccL E l⟩
end
def mkV (agg : Bool) (cs : List Value) : Value := if agg then .agg cs.toArray else cs.headD .nilFunc
def teB (P : Program) (T : TypeId) (te : TE) : Bool :=
 match P.underlying T, P.info? T with
 | some d, some i => Nat.beq i.size te.size && Nat.ble 1 te.size && (te.agg == isAggD d) && dokB P te.d d &&
   (match te.ty with
     | some t => Nat.beq (size t) te.size && (t.isAgg == te.agg) && Nat.ble i.bytes (bytesT t) && (!te.eq || (eqOK P Op.maxDepth T t && (!t.isAgg || !P.eqGuardType P.depth T)))
     | none => true)
 | _, _ => false
theorem te_of {P : Program} {T : TypeId} {te : TE} (z : Option Zr) (h : teB P T te = true) (hz : te.zero = z.map Zr.av)
  (hv : match z with | some z => Nat.beq (Gh.cells z.av) te.size = true ∧ (z.av.isAgg == te.agg) = true ∧ (z.av.isAgg || Nat.beq z.cells.length 1) = true ∧ (P.info? T).bind (·.zero) = some (mkV te.agg z.cells) | none => True) : TEok P T te := by
 unfold teB at h
 split at h
 ·rename_i d i hd hi
  simp only [Bool.and_eq_true, beq_iff_eq] at h
  obtain ⟨⟨⟨⟨h1, h2⟩, h3⟩, h4⟩, h5⟩ := h
  refine ⟨⟨i, hi, Nat.eq_of_beq_eq_true h1⟩, Nat.le_of_ble_eq_true h2, ⟨d, hd, h3, dokB_ok h4⟩, fun t ht => ?_, fun t ht j hj => ?_, fun a ha => ?_⟩
  ·rw [ht] at h5
   simp only [Bool.and_eq_true, beq_iff_eq] at h5
   refine ⟨Nat.eq_of_beq_eq_true h5.1.1.1, h5.1.1.2, fun he => ?_⟩
   have h6 := h5.2
   rw [he] at h6
   simp only [Bool.not_true, Bool.false_or, Bool.and_eq_true] at h6
   refine eqTy_of h6.1 (fun hag => ?_)
   have h7 := h6.2
   rw [hag] at h7
   simpa using h7
  ·rw [ht] at h5
   simp only [Bool.and_eq_true, beq_iff_eq] at h5
   rw [hi] at hj
   cases hj
   exact Nat.le_of_ble_eq_true h5.1.2
  ·cases z with
   | none => rw [hz] at ha; cases ha
   | some z =>
    rw [hz] at ha
    cases ha
    obtain ⟨v1, v2, v3, v4⟩ := hv
    have v2 := eq_of_beq v2
    refine ⟨Nat.eq_of_beq_eq_true v1, v2, ?_⟩
    rw [hi] at v4
    refine ⟨i, _, hi, v4, fun E => ⟨_, Zr.cc E z, ?_⟩⟩
    rw [v2]
    unfold ofCells mkV
    cases hag : te.agg with
    | true => simp
    | false =>
     rw [v2, hag, Bool.false_or] at v3
     have := Nat.eq_of_beq_eq_true v3
     simp only [Bool.false_eq_true, if_false]
     match z.cells, this with
     | [v], _ => rfl
 ·cases h
def lookT : List (Nat × TE) → Nat → Option TE
 | [], _ => none
 | (i, a) :: r, j => cond (Nat.beq i j) (some a) (lookT r j)
theorem lookT_all {P : Program} : ∀ {l : List (Nat × TE)}, (∀ x ∈ l, TEok P x.1 x.2) → ∀ T te, lookT l T = some te → TEok P T te
 | [], _, T, te, h => by simp [lookT] at h
 | (i, a) :: r, hl, T, te, h => by
  simp only [lookT] at h
  cases hq : Nat.beq i T with
  | true =>
   rw [hq] at h; cases h
   have := Nat.eq_of_beq_eq_true hq
   subst this
   exact hl (i, a) (by simp)
  | false =>
   rw [hq] at h
   exact lookT_all (fun x hx => hl x (by simp [hx])) T te h
end Go.Gh
/- The ghost machine: maps' types, checked by program. Conditions: none (lemmas alone). -/
namespace Go.Gh
mutual
def noArr : Ty → Bool
 | .arr _ t => noArr t
 | .struct fs => noArrL fs
 | _ => true
def noArrL : List Ty → Bool
 | [] => true
 | t :: ts => noArr t && noArrL ts
end
mutual
theorem chk_ok {P : Program} : ∀ (d : Nat) (T : TypeId) (t : Ty), eqOK P d T t = true → noArr t = true → ∀ (m : Mem) (x : den t) (v : Value) (w : World) (b : Bool), EV m t x v → (Instr.checkKey b d T v).run P w = .ok () w
 | 0, _, _, h, _ => by simp [eqOK] at h
 | d + 1, T, .int k, h, _ => by
  intro m x v w em ⟨a, ha, hu⟩
  simp only [eqOK] at h
  split at h
  ·rename_i k' hd
   simp [Instr.checkKey, run_underlying hd]
  ·cases h
 | d + 1, T, .bool, h, _ => by
  intro m x v w em ⟨a, ha, hu⟩
  simp only [eqOK] at h
  split at h
  ·rename_i hd
   simp [Instr.checkKey, run_underlying hd]
  ·cases h
 | d + 1, T, .str, h, _ => by
  intro m x v w em ⟨a, ha, hu⟩
  simp only [eqOK] at h
  split at h
  ·rename_i hd
   simp [Instr.checkKey, run_underlying hd]
  ·cases h
 | d + 1, T, .struct fs, h, hn => by
  intro m x v w em ⟨a, ha, hu⟩
  simp only [eqOK, Bool.and_eq_true, Bool.not_eq_true'] at h
  unfold Enc at ha
  simp only [ofCells, Ty.isAgg, if_true] at hu
  subst hu
  obtain ⟨h1, _⟩ := h
  split at h1
  ·rename_i ffs hd
   simp only [Instr.checkKey, Sem.run_bind, run_underlying hd, Result.andThen_ok]
   rw [← Array.forIn_toList]
   have := chkFs_ok d ffs.toList fs 0 h1 (by simpa [noArr] using hn) m x [] a w em ha rfl
   simp only [List.nil_append] at this
   rw [this]
   simp
  ·cases h1
 | d + 1, T, .arr n t, h, hn => by
  intro m x v w em ⟨a, ha, hu⟩
  simp only [eqOK] at h
  unfold Enc at ha
  simp only [ofCells, Ty.isAgg, if_true] at hu
  subst hu
  split at h
  ·rename_i k e hd
   simp only [Bool.and_eq_true] at h
   obtain ⟨⟨h1, h2⟩, h3⟩ := h
   have hn' := Nat.eq_of_beq_eq_true h1
   subst hn'
   have hsz : ∃ i, P.info? e = some i ∧ i.size = size t := by
    unfold tyFits at h2
    split at h2
    ·rename_i d' i _ hi
     rw [Bool.and_eq_true] at h2
     exact ⟨i, hi, Nat.eq_of_beq_eq_true h2.2⟩
    ·cases h2
   obtain ⟨i, hi, his⟩ := hsz
   have ih := chk_ok d e t h3 (by simpa [noArr] using hn)
   simp only [Instr.checkKey, Sem.run_bind, run_underlying hd, Result.andThen_ok]
   rw [Std.Legacy.Range.forIn_eq_forIn_range']
   simp only [Std.Legacy.Range.size, Nat.sub_zero, Nat.add_sub_cancel, Nat.div_one]
   have loop : ∀ (c j : Nat) (xs : List (den t)) (pa a : List Value) (w : World), pa.length = j * size t → Rows (Enc m t) xs a → List.length xs = c →
     ((forIn (List.range' j c) PUnit.unit fun i _ => do
       let __do_lift ← sizeOf e
       let __do_lift ← part e (pa ++ a).toArray (i * __do_lift)
       Instr.checkKey em d e __do_lift
       pure (ForInStep.yield PUnit.unit) : Sem PUnit)).run P w = .ok PUnit.unit w := by
    intro c
    induction c with
    | zero =>
     intro j xs pa a w _ _ _
     simp
    | succ c ihc =>
     intro j xs pa a w hpa ha hx
     match xs, hx with
     | x :: xs, hx =>
      obtain ⟨a1, a2, rfl, p1, p2⟩ := ha
      obtain ⟨v1, r1, e1⟩ := fits_part h2 (pa := pa) (pb := a2) p1 w
      rw [List.range'_succ, List.forIn_cons]
      rw [hpa] at r1
      simp only [Sem.run_bind, run_siz hi, his, r1, Result.andThen_ok, ih m x v1 w em e1, Sem.run_pure]
      have l1 := Enc.len t p1
      have := ihc (j + 1) xs (pa ++ a1) a2 w (by simp [hpa, l1, Nat.add_mul]) p2 (by simpa using hx)
      simp only [List.append_assoc] at this
      exact this
   have := loop n 0 x [] a w (by simp) ha.2 ha.1
   simp only [List.nil_append] at this
   rw [this]
   rfl
  ·cases h
 | d + 1, T, .slice t, h, _ => by simp [eqOK] at h
 | d + 1, T, .hnd i t, h, _ => by simp [eqOK] at h
theorem chkFs_ok {P : Program} : ∀ (d : Nat) (fl : List Field) (ts : List Ty) (o : Nat), eqFs P d fl ts o = true → noArrL ts = true → ∀ (m : Mem) (x : denL ts) (pa a : List Value) (w : World) (em : Bool), EncL m ts x a → pa.length = o →
  ((forIn fl PUnit.unit fun f _ => do
    if f.name ≠ "_" then do
     let __do_lift ← part f.type (pa ++ a).toArray f.offset
     Instr.checkKey em d f.type __do_lift
     pure (ForInStep.yield PUnit.unit)
    else pure (ForInStep.yield PUnit.unit) : Sem PUnit)).run P w = .ok PUnit.unit w
 | d, [], [], o, h, _ => by
  intro m x pa a w em _ _
  simp
 | d, f :: fl, t :: ts, o, h, hn => by
  intro m x pa a w em ha hpa
  simp only [eqFs, Bool.and_eq_true, Bool.not_eq_true', beq_eq_false_iff_ne, ne_eq] at h
  obtain ⟨⟨⟨⟨h1, h2⟩, h3⟩, h4⟩, h5⟩ := h
  have h2 := Nat.eq_of_beq_eq_true h2
  simp only [noArrL, Bool.and_eq_true] at hn
  unfold EncL at ha
  obtain ⟨a1, a2, rfl, p1, p2⟩ := ha
  obtain ⟨v1, r1, e1⟩ := fits_part h3 (pa := pa) (pb := a2) p1 w
  rw [hpa] at r1
  rw [List.forIn_cons]
  simp only [ne_eq, h1, not_false_eq_true, if_true, Sem.run_bind, h2, r1, Result.andThen_ok, chk_ok d f.type t h4 hn.1 m x.1 v1 w em e1, Sem.run_pure]
  have l1 := Enc.len t p1
  have := chkFs_ok d fl ts (o + size t) h5 hn.2 m x.2 (pa ++ a1) a2 w em p2 (by simp [hpa, l1])
  simpa only [List.append_assoc] using this
 | _, [], _ :: _, _, h, _ => by simp [eqFs] at h
 | _, _ :: _, [], _, h, _ => by simp [eqFs] at h
end
theorem map_of {P : Program} {mm : Memo} (K V : TypeId) (h1 : plainT mm.key = true) (h2 : P.underlying mm.M = some (.map K V)) (h3 : eqOK P Op.maxDepth K mm.key = true) (h4 : noArr mm.key = true) (h5 : (!mm.key.isAgg || !P.eqGuardType P.depth K) = true) (h6 : (P.underlying K).isSome = true)
  (h7 : (P.info? V).bind (·.zero) = some (mkV mm.val.isAgg (zT mm.val))) (h8 : (mm.val.isAgg || Nat.beq (zT mm.val).length 1) = true) : MapOK P mm := by
 refine ⟨h1, ?_⟩
 cases hi : P.info? V with
 | none => rw [hi] at h7; cases h7
 | some iv =>
  rw [hi] at h7
  refine ⟨K, V, iv, _, h2, hi, h7, fun m => ⟨_, zT_ok m mm.val, ?_⟩, eqTy_of h3 (fun hag => ?_), h6, fun m x v w b hx => chk_ok 10000 K mm.key h3 h4 m x v w b hx⟩
  ·unfold ofCells mkV
   cases hag : mm.val.isAgg with
   | true => simp
   | false =>
    rw [hag, Bool.false_or] at h8
    have := Nat.eq_of_beq_eq_true h8
    simp only [Bool.false_eq_true, if_false]
    match zT mm.val, this with
    | [v], _ => rfl
  ·rw [hag] at h5
   simpa using h5
end Go.Gh
