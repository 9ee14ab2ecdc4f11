/- The ghost machine: operations that write. Conditions: as each lemma states. -/
import Derived.Test.YtjigflnjgmgmnaaDoorGhC
import Derived.Laws.AppendOwn
import Derived.Laws.MakeOwn
namespace Go.Gh
theorem one_eq (v : Value) : v.oneCell' = one v := by cases v <;> rfl
structure Only (w w' : World) (k : Nat) : Prop where
 size : w'.heap.size = w.heap.size
 os : w'.os = w.os
 tape : w'.tape = w.tape
 output : w'.output = w.output
 other : ∀ j, j ≠ k → w'.heap[j]? = w.heap[j]?
theorem run_storeCells {P : Program} {k off : Nat} {e : TypeId} : ∀ (vs : List Value) (i : Nat) (w : World) (arr : Array Value), w.heap[k]? = some (.cells arr e (0, 0)) → off + i + vs.length ≤ arr.size → (∀ v ∈ vs, one v = true) →
  ∃ w' arr', (storeCells ⟨k, off, none⟩ vs i).run P w = .ok () w' ∧ w'.heap[k]? = some (.cells arr' e (0, 0)) ∧ arr'.toList = put arr.toList (off + i) vs ∧ Only w w' k
 | [], i, w, arr, h, hl, _ => ⟨w, arr, rfl, h, by simp [put], rfl, rfl, rfl, rfl, fun _ _ => rfl⟩
 | v :: vs, i, w, arr, h, hl, ho => by
  simp only [List.length_cons] at hl
  have hlt : off + i < arr.size := by omega
  have hc : w.cell? ⟨k, off + i, none⟩ = some arr[off + i] := by simp [World.cell?, h, Array.getElem?_eq_getElem hlt]
  have hf : w.frozen? ⟨k, off + i, none⟩ = false := by simp [World.frozen?, h]
  have hw : (w.setCell ⟨k, off + i, none⟩ v).heap[k]? = some (.cells (arr.setIfInBounds (off + i) v) e (0, 0)) := by
   simp [World.setCell, Array.getElem?_modify, h]
  obtain ⟨w', arr', h1, h2, h3, h4⟩ := run_storeCells (P := P) (off := off) vs (i + 1) (w.setCell ⟨k, off + i, none⟩ v) _ hw (by simp; omega) (fun u hu => ho u (by simp [hu]))
  refine ⟨w', arr', ?_, h2, ?_, ?_⟩
  ·simp only [storeCells, Sem.run_bind, add_at]
   rw [run_store P w ⟨k, off + i, none⟩ v .plain (by rw [one_eq]; exact ho v (by simp)), hc]
   simp only [hf, Bool.false_eq_true, if_false, Result.andThen_ok, h1]
  ·rw [h3]
   have := fold_set off (v :: vs) i arr (by simp; omega)
   rw [List.zipIdx_cons, List.foldl_cons] at this
   rw [← this]
   rw [fold_set off vs (i + 1) _ (by simp; omega)]
  ·refine ⟨by rw [h4.size]; simp [World.setCell], h4.os, h4.tape, h4.output, fun j hj => ?_⟩
   rw [h4.other j hj]
   simp [World.setCell, Array.getElem?_modify, Ne.symm hj]
structure Keeps (E E' : Env) : Prop where
 le : E.m.le E'.m
 goes : ∀ j, Goes E E' j
 ρ : E'.ρ = E.ρ
 dk : DKeep E.m.w E'.m.w
theorem Keeps.cv {E E' : Env} (h : Keeps E E') {a : AV} {v : Value} (c : CV E a v) : CV E' a v := CV.to h.le (fun j _ => h.goes j) c
theorem Keeps.regs {E E' : Env} (h : Keeps E E') {r : Regs} {n : Nat} {tmps : Array Value} (c : RegsOK E r n tmps) : RegsOK E' r n tmps := c.to h.le (fun j _ _ => h.goes j)
theorem Keeps.refl (E : Env) : Keeps E E := ⟨Mem.le.refl _, fun _ b' hb => ⟨b', hb, rfl, rfl, fun _ xs l e => ⟨xs, l, e, rfl⟩⟩, rfl, fun _ h => h⟩
theorem Keeps.trans {a b c : Env} (h : Keeps a b) (h' : Keeps b c) : Keeps a c := by
 refine ⟨h.le.trans h'.le, fun j b' hb => ?_, by rw [h'.ρ, h.ρ], fun k hk => h'.dk k (h.dk k hk)⟩
 obtain ⟨b1, p1, p2, p3, p4⟩ := h'.goes j b' hb
 obtain ⟨b2, q1, q2, q3, q4⟩ := h.goes j b1 p1
 refine ⟨b2, q1, by rw [p2, q2], by rw [p3, q3], fun t xs l e => ?_⟩
 obtain ⟨xs1, l1, e1, e2⟩ := p4 t xs l e
 obtain ⟨xs2, l2, e3, e4⟩ := q4 t xs1 l1 e1
 exact ⟨xs2, l2, e3, by rw [e4, e2]⟩
def WriteOK' (B : Base) (E : Env) (o : Oper) (ρ : Operand → Value) (F : Frame) (CS : List Frame) (a : AV) (H' : Heap) : Prop :=
 (∃ v E', Does B.cx.P o ρ E.m.w F CS v E'.m.w ∧ StateOK B E' ∧ E'.H = H' ∧ Keeps E E' ∧ CV E' a v ∧ ∀ id, a ≠ .row id) ∨
 (∃ v w' id b q, a = .row id ∧ H' = (id, b) :: purgeH id E.H ∧ Does B.cx.P o ρ E.m.w F CS v w' ∧ BindOK B E id b w' q ∧ BOK B (E.bind B id b w' q) id b ∧ CV (E.bind B id b w' q) (.row id) v)
abbrev WriteGoal {R : Type} (B : Base) (E : Env) (o : Oper) (ρ : Operand → Value) (F : Frame) (CS : List Frame) (g : AV → Heap → Option R) (r : R) : Prop :=
 ∃ a H', g a H' = some r ∧ WriteOK' B E o ρ F CS a H'
section
variable {R : Type} {B : Base} {E : Env} {o : Oper} {av : Operand → AV} {ρ : Operand → Value} {F : Frame} {CS : List Frame} {site : Nat} {g : AV → Heap → Option R} {r : R}
theorem run_storeVar {P : Program} {T : TypeId} {te : TE} (h : TEok P T te) {k off : Nat} {e : TypeId} {v : Value} {w : World} {arr : Array Value} (hs : v.cells.size = te.size) (hk : w.heap[k]? = some (.cells arr e (0, 0))) (hl : off + te.size ≤ arr.size) (ho : ∀ x ∈ v.cells.toList, one x = true) :
  ∃ w' arr', (storeVar T ⟨k, off, none⟩ v).run P w = .ok () w' ∧ w'.heap[k]? = some (.cells arr' e (0, 0)) ∧ arr'.toList = put arr.toList off v.cells.toList ∧ Only w w' k := by
 obtain ⟨i, hi, his⟩ := h.info
 obtain ⟨w', arr', h1, h2, h3, h4⟩ := run_storeCells (P := P) (off := off) v.cells.toList 0 w arr hk (by simp; omega) ho
 refine ⟨w', arr', ?_, h2, by simpa using h3, h4⟩
 simp only [storeVar, Sem.run_bind, run_siz hi, Result.andThen_ok, his, Sem.run_ite]
 rw [if_neg (by simp [hs])]
 exact h1
theorem writeOK_of {id : Nat} {b b' : Blk} {k : Nat} {arr arr' : Array Value} {e : TypeId} {w' : World} (_ : StateOK B E) (hl : hlook E.H id = some b) (hk : E.ρ id = some k) (hal : Alike b b') (hb : E.m.w.heap[k]? = some (.cells arr e (0, 0)))
  (hb' : w'.heap[k]? = some (.cells arr' e (0, 0))) (hsz : arr'.size = arr.size) (ho : Only E.m.w w' k) (hm : ∀ j, ¬ E.m.Mut k j → arr'[j]? = arr[j]?) : WriteOK E id b b' w' k := by
 refine ⟨hl, hk, hal, ho.size, ho.os, ho.tape, ho.output, fun k' j v hc hn => ?_, fun k' x hx => ?_, ho.other⟩
 ·by_cases e1 : k' = k
  ·subst e1
   simp only [Mem.cell, World.cell?, hb] at hc
   simp only [World.cell?, hb']
   have := hm j hn
   simpa [this] using hc
  ·simp only [Mem.cell] at hc
   rw [cell_block (ho.other k' e1) j]; exact hc
 ·by_cases e1 : k' = k
  ·subst e1
   simp only [World.shape?, hb] at hx
   simp only [World.shape?, hb', hsz]
   exact hx
  ·rw [shape_block (ho.other k' e1)]; exact hx
theorem alike_box (a a' : AV) (h : skA a' = skA a) : Alike (.box a false) (.box a' false) :=
 { sk := h, row := fun _ _ _ e => (by cases e), own := fun _ => Iff.rfl, loop := fun _ _ _ _ _ _ _ _ _ _ e => by cases e }
theorem alike_row (t : Ty) (xs ys : List (den t)) (h : xs.length = ys.length) : Alike (.row t xs false) (.row t ys false) := by
 refine { sk := rfl, row := fun t' zs l e => ?_, own := fun j => ?_, loop := fun _ _ _ _ _ _ _ _ _ _ e => by cases e }
 ·cases e; exact ⟨xs, false, rfl, h⟩
 ·simp [ownB]
theorem one_cells {E : Env} {a : AV} {v : Value} {n : Nat} (hn : 1 ≤ n) (hc : CV E a v) (h : cells a = n) : ∃ bs, CC E a bs ∧ v.cells.toList = bs ∧ bs.length = n ∧ ∀ x ∈ bs, one x = true := by
 obtain ⟨bs, h1, h2⟩ := cells_pos_cc hn hc h
 exact ⟨bs, h1, ofCells_cells h1 h2, by rw [CC.len _ h1, h], CC.one _ h1⟩
theorem write_store {T : TypeId} {x v : Operand} (hs : StateOK B E) (hte : ∀ T te, B.cx.te T = some te → TEok B.cx.P T te) (ho : o.op = .store T x v) (hx : CV E (av x) (ρ x)) (hv : CV E (av v) (ρ v))
  (h : opw B.cx E.H av site o.op g = some r) : WriteGoal B E o ρ F CS g r := by
 rw [ho] at h
 simp only [opw, storeA] at h
 split at h
 ·rename_i te hT
  have hT := hte _ _ hT
  split at h
  ·rename_i hsz
   obtain ⟨bs, hb1, hb2, hb3, hb4⟩ := one_cells hT.pos hv hsz
   split at h
   ·rename_i id p hav
    rw [hav] at hx
    have hc := hx.one rfl (by simp [skA])
    unfold CC at hc
    obtain ⟨u, e, _, hv2⟩ := hc
    cases e
    split at h
    ·rename_i a hl
     obtain ⟨k, hk, hp⟩ := hv2 _ hl
     obtain ⟨k', arr, e, p1, p2, p3, p4⟩ := hs.blk _ _ hl
     rw [hk] at p1; cases p1
     obtain ⟨a', q1, q2, q3, q4, _⟩ := setA_spec hb1 p p4 h
     obtain ⟨w', arr', s1, s2, s3, s4⟩ := run_storeVar (P := B.cx.P) (v := ρ v) hT (by rw [← Array.length_toList, hb2, hb3]) p3 (off := offK (skA a) p) (by rw [← hb3]; simpa using q4) (by rw [hb2]; exact hb4)
     rw [hb2] at s3
     have hal := alike_box a a' q3
     have hlen : arr'.size = arr.size := by
      have := congrArg List.length s3
      rw [put_len q4] at this
      simpa using this
     have hmut : ∀ j, E.m.Mut k j := fun j => (hs.wri k j).2 (.inr ⟨id, _, hl, hk, rfl⟩)
     have hW := writeOK_of (w' := w') hs hl hk hal p3 s2 hlen s4 (fun j hn => absurd (hmut j) hn)
     refine ⟨_, _, q1, .inl ⟨undef, E.write id (.box a' false) w', .inr (.inl ⟨?_, rfl⟩), hs.write hW ?_, rfl, ⟨write_le hW, write_goes hW, rfl, write_dkeep hs hW⟩, trivial, by intros; simp⟩⟩
     ·simp only [execOp, ho, Instr.storeAt, hp, Instr.sureAddr, Sem.run_bind, Sem.run_pure, Result.andThen_ok, skB, s1]
      rfl
     ·refine ⟨k, arr', e, hk, p2, s2, ?_⟩
      rw [s3]
      exact CC.write hW q2
    ·rename_i t xs hl
     obtain ⟨k, hk, hp⟩ := hv2 _ hl
     split at h
     ·rename_i i p
      by_cases hi : i < xs.length
      ·rw [decide_eq_true hi, cond_true] at h
       split at h
       ·rename_i u y hvy
        rcases hs.blk _ _ hl with ⟨p1, _⟩ | ⟨k', arr, e, es, p1, p2, p3, p4, p5⟩
        ·rw [hk] at p1; cases p1
        rw [hk] at p1; cases p1
        have hL : ∀ (x : den t) cs, Enc E.m t x cs → cs.length = size t := fun x cs p => Enc.len t p
        have hel := p4.get hL hi (dflt t)
        rw [hvy] at hb1
        unfold CC at hb1
        obtain ⟨z, q1, q2, q3⟩ := setT_spec hb1 p hel h
        have hlen := Rows.len hL p4
        have hm : (i + 1) * size t ≤ xs.length * size t := Nat.mul_le_mul_right _ hi
        rw [Nat.add_mul, Nat.one_mul] at hm
        rw [List.length_take, List.length_drop] at q3
        obtain ⟨tl, htl⟩ := p5
        have hal2 : es.length ≤ arr.size := by rw [← Array.length_toList, ← htl]; simp
        have e1 : offK (skB (.row t xs false)) (i :: p) = i * size t + offK (skT t) p := by simp only [skB, offK, size_sk]
        obtain ⟨w', arr', s1, s2, s3, s4⟩ := run_storeVar (P := B.cx.P) (v := ρ v) hT (by rw [← Array.length_toList, hb2, hb3]) p3 (off := i * size t + offK (skT t) p) (by rw [← hb3]; omega) (by rw [hb2]; exact hb4)
        rw [hb2] at s3
        have hal := alike_row t xs (xs.set i z) (by simp)
        have hsz2 : arr'.size = arr.size := by
         have := congrArg List.length s3
         rw [put_len (by simp; omega)] at this
         simpa using this
        have hmut : ∀ j, E.m.Mut k j := fun j => (hs.wri k j).2 (.inr ⟨id, _, hl, hk, fun h => by cases h⟩)
        have hW := writeOK_of (w' := w') hs hl hk hal p3 s2 hsz2 s4 (fun j hn => absurd (hmut j) hn)
        refine ⟨_, _, q1, .inl ⟨undef, E.write id (.row t (xs.set i z) false) w', .inr (.inl ⟨?_, rfl⟩), hs.write hW ?_, rfl, ⟨write_le hW, write_goes hW, rfl, write_dkeep hs hW⟩, trivial, by intros; simp⟩⟩
        ·simp only [execOp, ho, Instr.storeAt, hp, Instr.sureAddr, Sem.run_bind, Sem.run_pure, Result.andThen_ok, e1, s1]
         rfl
        ·refine .inr ⟨k, arr', e, put es (i * size t + offK (skT t) p) bs, hk, p2, s2, ?_, ?_⟩
         ·have h9 := p4.set hL hi q2
          have h10 := put_cut (cs := es) (bs := bs) (o := i * size t) (n := size t) (p := offK (skT t) p) (by omega) (by omega)
          rw [h10]
          exact h9.mono fun x cs p => Enc.mono (write_le hW) t p
         ·rw [s3, ← htl, put_app (by omega)]
          exact List.prefix_append _ _
       ·cases h
      ·rw [decide_eq_false hi] at h; cases h
     ·cases h
    ·cases h
   ·cases h
  ·cases h
 ·cases h
end
end Go.Gh
/- The ghost machine: operations that write: slices of own arrays, make, append, copy. Conditions: as each lemma states. -/
namespace Go.Gh
section
variable {R : Type} {B : Base} {E : Env} {o : Oper} {av : Operand → AV} {ρ : Operand → Value} {F : Frame} {CS : List Frame} {site : Nat} {g : AV → Heap → Option R} {r : R}
theorem new_row {id : Nat} {t : Ty} {xs : List (den t)} {l : Bool} {arr : Array Value} {e : TypeId} {es : List Value} {cap : Nat} {w' : World} (hs : StateOK B E)
  (hw : w'.heap = E.m.w.heap.push (.cells arr e (0, 0))) (h1 : w'.os = E.m.w.os) (h2 : w'.tape = E.m.w.tape) (h3 : w'.output = E.m.w.output)
  (hr : Rows (Enc E.m t) xs es) (hp : es <+: arr.toList) (hsz : arr.size = cap * size t) (hc : xs.length ≤ cap) :
  BindOK B E id (.row t xs l) w' (some E.m.w.heap.size) ∧ BOK B (E.bind B id (.row t xs l) w' (some E.m.w.heap.size)) id (.row t xs l) ∧
  CV (E.bind B id (.row t xs l) w' (some E.m.w.heap.size)) (.row id) (.slice (some ⟨E.m.w.heap.size, 0, none⟩) xs.length cap) := by
 have hsame : ∀ k, k < E.m.w.heap.size → w'.heap[k]? = E.m.w.heap[k]? := fun k hk => by rw [hw, Array.getElem?_push, if_neg (by omega)]
 have hnew : w'.heap[E.m.w.heap.size]? = some (.cells arr e (0, 0)) := by rw [hw]; simp
 have hB : BindOK B E id (.row t xs l) w' (some E.m.w.heap.size) := by
  refine ⟨by rw [hw]; simp, h1, h2, h3, fun k j v hc _ => ?_, fun k x hk => ?_, fun k hk _ => hsame k hk, fun k hk => ?_, fun k j hk _ => ?_⟩
  ·have := cell_lt hc
   rw [← hc]; exact cell_block (hsame k this) j
  ·have := shape_lt hk
   rw [← hk]; exact shape_block (hsame k this)
  ·cases hk; exact .inl (Nat.le_refl _)
  ·cases hk; exact .inl (Nat.le_refl _)
 have hle := bind_le hs hB
 refine ⟨hB, ?_, ?_⟩
 ·exact .inr ⟨_, arr, e, es, upd_same, hs.ext.size, hnew, hr.mono fun x cs p => Enc.mono hle t p, hp⟩
 ·refine CV.of1 ?_ rfl
  unfold CC
  refine ⟨_, rfl, rfl, fun t' ys l' hl => ?_⟩
  rw [hlook_bind_same] at hl
  cases hl
  refine .inr ⟨_, cap, e, upd_same, rfl, hc, ?_⟩
  show w'.shape? _ = _
  simp only [World.shape?, hnew, hsz]
theorem run_append_in {P : Program} (w : World) (t ty e e' : TypeId) (i : TypeInfo) (ht : P.underlying t = some (.slice e)) (hi : P.info? e = some i)
  (g sLen sCap : Nat) (cur : Array Value) (hg : w.heap[g]? = some (.cells cur e' (0, 0)))
  (a : Addr) (m c : Nat) (news : List Value) (hl : news.length = m * i.size) (hnews : ∀ j u, news[j]? = some u → w.cell? (a.add j) = some u) (h1 : ∀ u ∈ news, u.oneCell' = true)
  (hroom : sLen + m ≤ sCap) (hfit : sLen * i.size + news.length ≤ cur.size) :
  (Builtin.append_ #[t, t] ty #[.slice (some ⟨g, 0, none⟩) sLen sCap, .slice (some a) m c]).run P w =
   .ok (.slice (some ⟨g, 0, none⟩) (sLen + m) sCap) (w.setRow g (cur.toList.take (sLen * i.size) ++ news ++ cur.toList.drop (sLen * i.size + news.length)).toArray) := by
 have hf := run_firstCells_some (P := P) w i.size m a m c news hl hnews
 have hst := run_storeCells_at P g (sLen * i.size) e' news 0 cur w hg (by simpa using hfit) h1
 simp only [Nat.add_zero] at hst
 simp [Builtin.append_, run_underlying ht, sizeOf, typeInfo, hi, Builtin.lenOf, hroom, hf, Addr.add_lit, hst]
theorem set_row {id : Nat} {t : Ty} {xs ys : List (den t)} {l : Bool} {arr arr' : Array Value} {e : TypeId} {es : List Value} {k cap : Nat} {w' : World} (hs : StateOK B E)
  (hl : hlook E.H id = some (.row t xs l)) (hk : E.ρ id = some k) (hkb : B.w0.heap.size ≤ k) (hb : E.m.w.heap[k]? = some (.cells arr e (0, 0))) (hw : w'.heap[k]? = some (.cells arr' e (0, 0))) (ho : Only E.m.w w' k) (hsz : arr'.size = arr.size) (hsh : arr.size = cap * size t)
  (hr : Rows (Enc E.m t) ys es) (hp : es <+: arr'.toList) (hc : ys.length ≤ cap) (hxy : xs.length ≤ ys.length) (hkeep : l = true → ∀ j, j < xs.length * size t → arr'[j]? = arr[j]?) :
  BindOK B E id (.row t ys l) w' (some k) ∧ BOK B (E.bind B id (.row t ys l) w' (some k)) id (.row t ys l) ∧
  CV (E.bind B id (.row t ys l) w' (some k)) (.row id) (.slice (some ⟨k, 0, none⟩) ys.length cap) := by
 have hlt := lt_of_some hb
 have hmut : ∀ j, ownB j (.row t xs l) → E.m.Mut k j := fun j hj => (hs.wri k j).2 (.inr ⟨id, _, hl, hk, hj⟩)
 have hsame : ∀ j, ¬ E.m.Mut k j → arr'[j]? = arr[j]? := by
  intro j hj
  cases hl' : l with
  | false => exact absurd (hmut j (by simp [ownB, hl'])) hj
  | true =>
   refine hkeep hl' j (Nat.lt_of_not_le fun h => hj (hmut j (fun _ => h)))
 have hB : BindOK B E id (.row t ys l) w' (some k) := by
  refine ⟨by rw [ho.size]; exact Nat.le_refl _, ho.os, ho.tape, ho.output, fun k' j v hc' hn => ?_, fun k' x hx => ?_, fun k' _ h => ?_, fun k' hk' => ?_, fun k' j hk' hj => ?_⟩
  ·by_cases e1 : k' = k
   ·subst e1
    simp only [Mem.cell, World.cell?, hb] at hc'
    simp only [World.cell?, hw]
    have := hsame j hn
    simpa [this] using hc'
   ·simp only [Mem.cell] at hc'
    rw [cell_block (ho.other k' e1) j]; exact hc'
  ·by_cases e1 : k' = k
   ·subst e1
    simp only [World.shape?, hb] at hx
    simp only [World.shape?, hw, hsz]
    exact hx
   ·rw [shape_block (ho.other k' e1)]; exact hx
  ·exact ho.other k' (fun e1 => h _ hl (by rw [e1]; exact hk))
  ·cases hk'; exact .inr ⟨hk, _, hl⟩
  ·cases hk'
   refine .inr (hmut j (fun hl' => ?_))
   have h1 := hj hl'
   have h2 : xs.length * size t ≤ ys.length * size t := Nat.mul_le_mul_right _ hxy
   exact Nat.le_trans h2 h1
 have hle := bind_le hs hB
 refine ⟨hB, ?_, ?_⟩
 ·exact .inr ⟨k, arr', e, es, upd_same, hkb, hw, hr.mono fun x cs p => Enc.mono hle t p, hp⟩
 ·refine CV.of1 ?_ rfl
  unfold CC
  refine ⟨_, rfl, rfl, fun t' zs l' hl => ?_⟩
  rw [hlook_bind_same] at hl
  cases hl
  refine .inr ⟨_, cap, e, upd_same, rfl, hc, ?_⟩
  show w'.shape? _ = _
  simp only [World.shape?, hw, hsz, hsh]
theorem cut_row {id : Nat} {t : Ty} {xs ys : List (den t)} {arr : Array Value} {e : TypeId} {es : List Value} {k cap : Nat} (hs : StateOK B E)
  (hl : hlook E.H id = some (.row t xs false)) (hk : E.ρ id = some k) (hkb : B.w0.heap.size ≤ k) (hb : E.m.w.heap[k]? = some (.cells arr e (0, 0))) (hsh : arr.size = cap * size t)
  (hr : Rows (Enc E.m t) ys es) (hp : es <+: arr.toList) (hc : ys.length ≤ cap) :
  BindOK B E id (.row t ys false) E.m.w (some k) ∧ BOK B (E.bind B id (.row t ys false) E.m.w (some k)) id (.row t ys false) ∧
  CV (E.bind B id (.row t ys false) E.m.w (some k)) (.row id) (.slice (some ⟨k, 0, none⟩) ys.length cap) := by
 have hB : BindOK B E id (.row t ys false) E.m.w (some k) :=
  ⟨Nat.le_refl _, rfl, rfl, rfl, fun _ _ _ hc' _ => hc', fun _ _ hx => hx, fun _ _ _ => rfl, fun k' hk' => (by cases hk'; exact .inr ⟨hk, _, hl⟩),
    fun k' j hk' _ => (by cases hk'; exact .inr ((hs.wri k j).2 (.inr ⟨id, _, hl, hk, by simp [ownB]⟩)))⟩
 have hle := bind_le hs hB
 refine ⟨hB, .inr ⟨k, arr, e, es, upd_same, hkb, hb, hr.mono fun x cs p => Enc.mono hle t p, hp⟩, CV.of1 ?_ rfl⟩
 unfold CC
 refine ⟨_, rfl, rfl, fun t' zs l' hl => ?_⟩
 rw [hlook_bind_same] at hl
 cases hl
 refine .inr ⟨_, cap, e, upd_same, rfl, hc, ?_⟩
 show E.m.w.shape? _ = _
 simp only [World.shape?, hb, hsh]
theorem nil_row {id : Nat} {t : Ty} {l : Bool} (_ : StateOK B E) (a : Option Addr) (b : Blk) (hbb : b = .row t [] l) :
  BindOK B E id b E.m.w none ∧ BOK B (E.bind B id b E.m.w none) id b ∧ CV (E.bind B id b E.m.w none) (.row id) (.slice a 0 0) := by
 subst hbb
 refine ⟨⟨Nat.le_refl _, rfl, rfl, rfl, fun k j v hc _ => hc, fun k x hk => hk, fun k hk _ => rfl, fun k hk => ?_, fun k j hk _ => ?_⟩, .inl ⟨upd_same, rfl⟩, ?_⟩
 ·cases hk
 ·cases hk
 ·refine CV.of1 ?_ rfl
  unfold CC
  refine ⟨_, rfl, rfl, fun t' ys l' hl => ?_⟩
  rw [hlook_bind_same] at hl
  cases hl
  exact .inl ⟨upd_same, rfl, a, rfl⟩
theorem write_append {args : Array Operand} {argTypes : Array TypeId} (hs : StateOK B E) (hte : ∀ T te, B.cx.te T = some te → TEok B.cx.P T te) (ho : o.op = .call { callee := .builtin .append, args, argTypes })
  (hx : ∀ x ∈ args.toList, CV E (av x) (ρ x)) (h : opw B.cx E.H av site o.op g = some r) : WriteGoal B E o ρ F CS g r := by
 rw [ho] at h
 simp only [opw] at h
 split at h
 ·rename_i T T' s x htys hargs
  split at h
  ·rename_i hTT
   subst hTT
   split at h
   ·rename_i sz ag el esz ty eqq zz hT
    obtain ⟨d, hd, _, h2⟩ := (hte _ _ hT).desc
    simp only [DOK] at h2
    obtain ⟨rfl, ei, hei, hesz, hby⟩ := h2
    split at h
    ·rename_i sz' ag' d' t eqq' z hT'
     have hTe := hte _ _ hT'
     obtain ⟨hsz, hag, _⟩ := hTe.ty t rfl
     obtain ⟨ei', zv, hei', hz, hisz, hzsz⟩ := zero_size hTe rfl
     rw [hei] at hei'; cases hei'
     simp only at hsz hisz hzsz
     have hpos : 1 ≤ sz' := hTe.pos
     split at h
     ·rename_i ys hys
      obtain ⟨a1, a2, rfl⟩ : ∃ a1 a2, args = #[a1, a2] := by
       have := congrArg List.length hargs
       rw [List.length_map] at this
       match hq : args.toList, this with
       | [a1, a2], _ => exact ⟨a1, a2, by rw [← Array.toArray_toList (xs := args), hq]⟩
      have htys : argTypes = #[T, T] := by rw [← Array.toArray_toList (xs := argTypes), htys]
      subst htys
      simp only [List.map_cons, List.map_nil, List.cons.injEq, and_true] at hargs
      obtain ⟨hs1, hs2⟩ := hargs
      have hc1 := hx a1 (by simp)
      have hc2 := hx a2 (by simp)
      rw [hs2] at hc2
      obtain ⟨p, cap, es, hv2, hrows, hsrc⟩ := slice_src hs hc2 hys
      have hlen : es.length = ys.length * ei.size := by rw [Rows.len (s := size t) (fun x cs p => Enc.len t p) hrows, hsz, hisz]
      have does : ∀ v w', (Builtin.append_ #[T, T] o.type #[ρ a1, ρ a2]).run B.cx.P E.m.w = .ok v w' → Does B.cx.P o ρ E.m.w F CS v w' := by
       intro v w' hrun
       refine .inl ?_
       simp only [execOp, ho, resolve, invoke, builtin, Sem.run_bind, Sem.run_pure, Result.andThen_ok, List.map_toArray, List.map_cons, List.map_nil, hrun]
      have from_nil : ∀ (id : Nat) (l : Bool) (a : Option Addr), ρ a1 = .slice a 0 0 → ys.length ≤ 1152921504606846976 → ys.length * ei.bytes ≤ 140737488355328 → ∃ v w' q, Does B.cx.P o ρ E.m.w F CS v w' ∧ BindOK B E id (.row t ys l) w' q ∧ BOK B (E.bind B id (.row t ys l) w' q) id (.row t ys l) ∧ CV (E.bind B id (.row t ys l) w' q) (.row id) v := by
       intro id l a hv1 hlim hlim2
       by_cases hy : ys = []
       ·subst hy
        refine ⟨_, _, none, does _ _ (by rw [hv1, hv2]; exact run_append_none hd hei a p 0 0 cap (Nat.le_refl _)), nil_row hs a _ rfl⟩
       ·obtain ⟨k, off, rfl, hcell⟩ := hsrc hy
        have hyl : 0 < ys.length := List.length_pos_iff.2 hy
        obtain ⟨w', arr, cap', q1, q2, q3, q4, q5, q6, q7, q8⟩ := run_append_more (P := B.cx.P) (w := E.m.w) (T := T) (ty := o.type) (e := el) (i := ei) (z := zv) hd hei hz (by rw [hzsz, hisz]) a 0 0 [] (by simp) (fun _ => ⟨rfl, rfl⟩) (fun b' hb' j v hj => by simp at hj)
         ⟨k, off, none⟩ ys.length cap es hlen hcell (by omega) (by omega) (by rw [Nat.zero_add]; exact hlim2)
        obtain ⟨r1, r2, r3⟩ := new_row (id := id) (l := l) hs q2 q3 q4 q5 hrows (by simpa using q6) (by rw [q7, hisz, hsz]) (by omega)
        refine ⟨_, _, _, does _ _ (by rw [hv1, hv2]; exact q1), r1, r2, by rw [Nat.zero_add]; exact r3⟩
      split at h
      ·rw [hs1] at hc1
       have hc1 := hc1.one rfl (by simp [skA])
       unfold CC at hc1
       obtain ⟨a, e⟩ := hc1
       have hv1 := (List.cons.inj e).1
       obtain ⟨h, lb1, lb2, _⟩ := limA_some h
       obtain ⟨v, w', q, q1, q2, q3, q4⟩ := from_nil site false a hv1 lb1 (Nat.le_trans (Nat.mul_le_mul_left _ (hTe.bytes t rfl ei hei)) lb2)
       exact ⟨_, _, h, .inr ⟨v, w', site, _, q, rfl, rfl, q1, q2, q3, q4⟩⟩
      ·rename_i id
       rw [hs1] at hc1
       have hc1 := hc1.one rfl (by simp [skA])
       unfold CC at hc1
       obtain ⟨v1, e, _, hrow⟩ := hc1
       have hv1 := (List.cons.inj e).1
       split at h
       ·rename_i t' xs0 l hl
        split at h
        ·rename_i xs hxs
         have hbt0 := hTe.bytes t rfl ei hei
         obtain ⟨ht, rfl⟩ := castT_spec hxs
         cases ht
         obtain ⟨h, lb1, lb2, _⟩ := limA_some h
         have hbt := Nat.le_trans (Nat.mul_le_mul_left _ hbt0) lb2
         rcases hrow _ _ _ hl with ⟨h3, h4, a, h5⟩ | ⟨k, cap1, e1, h3, h4, h5, h6⟩
         ·subst h4
          obtain ⟨v, w', q, q1, q2, q3, q4⟩ := from_nil id l a (by rw [hv1, h5]) (by simpa using lb1) (by simpa using hbt)
          exact ⟨_, _, h, .inr ⟨v, w', id, _, q, rfl, rfl, q1, q2, q3, q4⟩⟩
         ·rcases hs.blk _ _ hl with ⟨h7, _⟩ | ⟨k', arr, e2, es0, h7, h8, h9, h10, h11⟩
          ·rw [h3] at h7; cases h7
          rw [h3] at h7; cases h7
          have hlen0 : es0.length = xs0.length * ei.size := by rw [Rows.len (s := size t) (fun x cs p => Enc.len t p) h10, hsz, hisz]
          simp only [World.shape?, h9, Option.some.injEq, Prod.mk.injEq] at h6
          have hasz : arr.size = cap1 * size t := h6.2
          have hcell0 : ∀ j v, es0[j]? = some v → E.m.w.cell? ((⟨k, 0, none⟩ : Addr).add j) = some v := by
           intro j v hj
           rw [add_at]
           obtain ⟨tl, htl⟩ := h11
           have : arr.toList[j]? = some v := by rw [← htl, List.getElem?_append_left (List.getElem?_eq_some_iff.1 hj).1]; exact hj
           simpa [World.cell?, h9] using this
          have hrows2 := h10.append hrows
          by_cases hroom : xs0.length + ys.length ≤ cap1
          ·by_cases hy : ys = []
           ·subst hy
            have hset := set_row (id := id) (t := t) (xs := xs0) (ys := xs0 ++ []) (l := l) (arr := arr) (arr' := arr) (w' := E.m.w) (cap := cap1) hs hl h3 h8 h9 h9 ⟨rfl, rfl, rfl, rfl, fun _ _ => rfl⟩ rfl hasz (by simpa using h10) h11 (by simpa using h5) (by simp) (fun _ _ _ => rfl)
            exact ⟨_, _, h, .inr ⟨_, _, id, _, _, rfl, rfl, does _ _ (by rw [hv1, hv2, h4]; exact run_append_none hd hei _ p _ _ cap h5), hset.1, hset.2.1, by simpa using hset.2.2⟩⟩
           ·obtain ⟨ka, off, rfl, hcell⟩ := hsrc hy
            have hm1 : (xs0.length + ys.length) * size t ≤ cap1 * size t := Nat.mul_le_mul_right _ hroom
            rw [Nat.add_mul] at hm1
            rw [hisz, ← hsz] at hlen hlen0
            have hrun := run_append_in (P := B.cx.P) E.m.w T o.type el e2 ei hd hei k xs0.length cap1 arr h9 ⟨ka, off, none⟩ ys.length cap es (by rw [hlen, hisz, hsz]) hcell (fun u hu => by rw [one_eq]; exact Rows.all (fun x cs p => Enc.one t p) hrows u hu) hroom (by rw [hisz, ← hsz]; omega)
            rw [hisz, ← hsz] at hrun
            have hes0 : arr.toList.take (xs0.length * size t) = es0 := by
             obtain ⟨tl, htl⟩ := h11
             rw [← htl, ← hlen0, List.take_left]
            rw [hes0] at hrun
            have hso : Only E.m.w (E.m.w.setRow k (es0 ++ es ++ arr.toList.drop (xs0.length * size t + es.length)).toArray) k :=
             ⟨by simp [World.setRow], rfl, rfl, rfl, fun j hj => setRow_other _ _ _ _ hj⟩
            have hset := set_row (id := id) (t := t) (xs := xs0) (ys := xs0 ++ ys) (l := l) (arr := arr) (e := e2) (cap := cap1) hs hl h3 h8 h9 (setRow_heap _ _ _ _ _ _ h9) hso
             (by simp only [List.size_toArray, List.length_append, List.length_drop, Array.length_toList, hlen, hlen0]; omega) hasz hrows2 (by simp) (by simpa using hroom) (by simp)
             (fun _ j hj => by
               rw [List.getElem?_toArray, List.append_assoc, List.getElem?_append_left (by omega), ← hes0, List.getElem?_take, if_pos hj]; simp)
            exact ⟨_, _, h, .inr ⟨_, _, id, _, _, rfl, rfl, does _ _ (by rw [hv1, hv2, h4]; exact hrun), hset.1, hset.2.1, by simpa using hset.2.2⟩⟩
          ·have hy : ys ≠ [] := fun hy => by subst hy; simp at hroom; omega
           obtain ⟨ka, off, rfl, hcell⟩ := hsrc hy
           obtain ⟨w', arr', cap', q1, q2, q3, q4, q5, q6, q7, q8⟩ := run_append_more (P := B.cx.P) (w := E.m.w) (T := T) (ty := o.type) (e := el) (i := ei) (z := zv) hd hei hz (by rw [hzsz, hisz]) (some ⟨k, 0, none⟩) xs0.length cap1 es0 hlen0 (fun h => by cases h) (fun b' hb' => by cases hb'; exact hcell0)
            ⟨ka, off, none⟩ ys.length cap es hlen hcell (by omega) lb1 hbt
           obtain ⟨r1, r2, r3⟩ := new_row (id := id) (l := l) hs q2 q3 q4 q5 hrows2 q6 (by rw [q7, hisz, hsz]) (by simpa using q8)
           exact ⟨_, _, h, .inr ⟨_, _, id, _, _, rfl, rfl, does _ _ (by rw [hv1, hv2, h4]; exact q1), r1, r2, by simpa using r3⟩⟩
        ·cases h
       ·cases h
      ·cases h
     ·cases h
    ·cases h
   ·cases h
  ·cases h
 ·cases h
end
end Go.Gh
/- The ghost machine: operations that write: make, copy, a slice of an own array. Conditions: as each lemma states. -/
namespace Go.Gh
section
variable {R : Type} {B : Base} {E : Env} {o : Oper} {av : Operand → AV} {ρ : Operand → Value} {F : Frame} {CS : List Frame} {site : Nat} {g : AV → Heap → Option R} {r : R}
theorem write_makeSlice {T : TypeId} {l c : Operand} (hs : StateOK B E) (hte : ∀ T te, B.cx.te T = some te → TEok B.cx.P T te) (ho : o.op = .makeSlice T l c)
  (hl : CV E (av l) (ρ l)) (hc : CV E (av c) (ρ c)) (h : opw B.cx E.H av site o.op g = some r) : WriteGoal B E o ρ F CS g r := by
 rw [ho] at h
 simp only [opw] at h
 split at h
 ·rename_i sz ag el esz ty eqq zz n m hT hl' hc'
  obtain ⟨d, hd, _, h2⟩ := (hte _ _ hT).desc
  simp only [DOK] at h2
  obtain ⟨rfl, ei, hei, hesz, hby⟩ := h2
  rw [hl'] at hl
  rw [hc'] at hc
  have hln := hl.int_inv
  have hcn := hc.int_inv
  split at h
  ·rename_i sz' ag' d' t eqq' z hT'
   have hTe := hte _ _ hT'
   obtain ⟨hsz, hag, _⟩ := hTe.ty t rfl
   split at h
   ·rename_i x0 hx0
    have hcond : 0 ≤ n ∧ n ≤ (rowLim : Int) ∧ m = n ∧ g (.row site) ((site, .row t (List.replicate n.toNat x0) false) :: purgeH site E.H) = some r := by
     by_cases h0 : 0 ≤ n
     ·by_cases h1 : n ≤ (rowLim : Int)
      ·by_cases h2 : m = n
       ·simp [h0, h1, h2] at h; exact ⟨h0, h1, h2, h⟩
       ·simp [h2] at h
      ·simp [h1] at h
     ·simp [h0] at h
    obtain ⟨h0, h1, rfl, h⟩ := hcond
    obtain ⟨hz1, hz2, i, zv, hz3, hz4, hz5⟩ := hTe.zero z rfl
    obtain ⟨cs, h6, h7⟩ := hz5 E
    have hzc : zv.cells.toList = cs := ofCells_cells h6 h7
    have he0 : Enc E.m t x0 zv.cells.toList := by rw [hzc]; exact toDat_spec hs.lent t z h6 hx0
    have hzs : zv.cells.size = size t := by have := Enc.len t he0; simpa using this
    rw [hei] at hz3
    cases hz3
    obtain ⟨i', q1, q2⟩ := hTe.info
    rw [hei] at q1
    cases q1
    have hes : ei.size = size t := by rw [hsz]; exact q2
    have h1 : m ≤ 2147483648 := h1
    have hb1 : (ei.bytes : Int) * m ≤ 65536 * 2147483648 := Int.mul_le_mul (by omega) h1 h0 (by omega)
    have hb2 : (ei.bytes : Int) * m ≤ 281474976710656 := by omega
    have hb3 : m ≤ 9223372036854775807 := Int.le_trans (b := 2147483648) h1 (by decide)
    have hrun := run_make (P := B.cx.P) E.m.w T el ei zv hd hei hz4 .i64 .i64 m m h0 (Int.le_refl _) hb2 hb3
    have harr : (madeCells zv.cells (m.toNat * ei.size)).toList = (List.replicate m.toNat zv.cells.toList).flatten := by
     rw [madeCells, Array.toList_map, Array.toList_range, hes, ← range_flatten zv.cells (size t) hzs m.toNat, hzs]
    have hrow := Rows.replicate he0 m.toNat
    rw [← harr] at hrow
    obtain ⟨r1, r2, r3⟩ := new_row (id := site) (l := false) (cap := m.toNat) (w' := E.m.w.alloc (.cells (madeCells zv.cells (m.toNat * ei.size)) el)) hs rfl rfl rfl rfl hrow (List.prefix_refl _) (by rw [size_madeCells, hes]) (by simp)
    refine ⟨_, _, h, .inr ⟨_, _, site, _, _, rfl, rfl, .inl ?_, r1, r2, by simpa using r3⟩⟩
    simp only [execOp, ho, hln, hcn, Sem.run_bind, hrun, Result.andThen_ok, Sem.run_pure]
   ·cases h
  ·cases h
 ·cases h
theorem hset_self : ∀ {H : Heap} {i : Nat} {b : Blk}, hlook H i = some b → hset H i b = H
 | [], _, _, h => by simp [hlook] at h
 | (j, d) :: r, i, b, h => by
  simp only [hlook, hset] at *
  split at h
  ·rename_i e; cases h; subst e; simp
  ·rename_i e; rw [if_neg e, hset_self h]
theorem sub_src {d : AV} {id lo len : Nat} {t : Ty} {xs : List (den t)} {l : Bool} {v : Value} (hlk : hlook E.H id = some (.row t xs l)) (h : subOf E.H d = some (id, lo, len)) (hc : CV E d v) :
  lo + len ≤ List.length xs ∧ ∃ v1, v = v1 ∧ ∃ a cap, v1 = .slice a len cap ∧ len ≤ cap ∧ (0 < len → ∃ k, E.ρ id = some k ∧ a = some ⟨k, lo * size t, none⟩) := by
 match d, h with
 | .sub i lo' len', h =>
  simp only [subOf, Option.some.injEq, Prod.mk.injEq] at h
  obtain ⟨rfl, rfl, rfl⟩ := h
  have hc1 := hc.one rfl (by simp [skA])
  unfold CC at hc1
  obtain ⟨v1, e, _, hrow⟩ := hc1
  obtain ⟨hl1, a, cap1, hv1', hcap1, ha⟩ := hrow.1 _ _ _ hlk
  exact ⟨hl1, v1, (List.cons.inj e).1, a, cap1, hv1', hcap1, ha⟩
 | .row i, h =>
  simp only [subOf] at h
  split at h
  ·rename_i t' xs' l' hlk'
   simp only [Option.some.injEq, Prod.mk.injEq] at h
   obtain ⟨rfl, rfl, rfl⟩ := h
   rw [hlk] at hlk'
   cases hlk'
   have hc1 := hc.one rfl (by simp [skA])
   unfold CC at hc1
   obtain ⟨v1, e, _, hrow⟩ := hc1
   refine ⟨by omega, v1, (List.cons.inj e).1, ?_⟩
   rcases hrow _ _ _ hlk with ⟨_, rfl, a, hv⟩ | ⟨k, cap, _, hk, hv, hcap, _⟩
   ·exact ⟨a, 0, hv, by simp, fun h => absurd h (by simp)⟩
   ·exact ⟨_, cap, hv, hcap, fun _ => ⟨k, hk, by rw [Nat.zero_mul]⟩⟩
  ·cases h
theorem slice_srcU (hs : StateOK B E) {t : Ty} {a : AV} {v : Value} {ys : List (den t)} (hc : CV E a v) (h : toDatU E.H (.slice t) a = some ys) :
  ∃ p cap es, v = .slice p ys.length cap ∧ Rows (Enc E.m t) ys es ∧ (ys ≠ [] → ∃ k off, p = some ⟨k, off, none⟩ ∧ ∀ j u, es[j]? = some u → E.m.w.cell? ((⟨k, off, none⟩ : Addr).add j) = some u) := by
 unfold toDatU at h
 split at h
 ·rename_i y hy
  cases h
  have hcc : (∃ cs, CC E a cs ∧ ofCells a.isAgg cs v) ∨ a.isTop = true := by
   refine .inl (hc.cells ?_)
   unfold arrDat at hy
   split at hy
   ·simp [skA]
   ·cases hy
  obtain ⟨p, cap, es, hv, _, hr, hk⟩ := arrDat_src hs hcc hy
  exact ⟨p, cap, es, hv, hr, fun hne => let ⟨k, off, e, hcl⟩ := hk hne; ⟨k, off, e, fun j u hj => by rw [add_at]; exact (hcl j u hj).1⟩⟩
 ·exact slice_src hs hc h
theorem write_copy {args : Array Operand} {argTypes : Array TypeId} (hs : StateOK B E) (hte : ∀ T te, B.cx.te T = some te → TEok B.cx.P T te) (ho : o.op = .call { callee := .builtin .copy, args, argTypes })
  (hx : ∀ x ∈ args.toList, CV E (av x) (ρ x)) (h : opw B.cx E.H av site o.op g = some r) : WriteGoal B E o ρ F CS g r := by
 rw [ho] at h
 simp only [opw] at h
 split at h
 ·rename_i T Ts d x htys hargs
  split at h
  ·rename_i sz ag el esz ty eqq zz id lo len hT hsub
   obtain ⟨d, hd, _, h2⟩ := (hte _ _ hT).desc
   simp only [DOK] at h2
   obtain ⟨rfl, ei, hei, hesz, hby⟩ := h2
   split at h
   ·rename_i t xs hlk
    split at h
    ·rename_i hsz
     split at h
     ·rename_i ys hys
      obtain ⟨a1, a2, rfl⟩ : ∃ a1 a2, args = #[a1, a2] := by
       have := congrArg List.length hargs
       rw [List.length_map] at this
       match hq : args.toList, this with
       | [a1, a2], _ => exact ⟨a1, a2, by rw [← Array.toArray_toList (xs := args), hq]⟩
      have htys : argTypes[0]? = some T := by rw [← Array.getElem?_toList, htys]; rfl
      simp only [List.map_cons, List.map_nil, List.cons.injEq, and_true] at hargs
      obtain ⟨hs1, hs2⟩ := hargs
      have hc1 := hx a1 (by simp)
      have hc2 := hx a2 (by simp)
      rw [hs2] at hc2
      obtain ⟨p, cap, es, hv2, hrows, hsrc⟩ := slice_srcU hs hc2 hys
      have hlen : es.length = ys.length * size t := Rows.len (s := size t) (fun x cs p => Enc.len t p) hrows
      rw [hs1] at hc1
      obtain ⟨hl1, v1, hv1, a, cap1, hv1', hcap1, ha⟩ := sub_src hlk hsub hc1
      have does : ∀ v w', (Builtin.copy_ argTypes o.type #[ρ a1, ρ a2]).run B.cx.P E.m.w = .ok v w' → Does B.cx.P o ρ E.m.w F CS v w' := by
       intro v w' hrun
       refine .inl ?_
       simp only [execOp, ho, resolve, invoke, builtin, Sem.run_bind, Sem.run_pure, Result.andThen_ok, List.map_toArray, List.map_cons, List.map_nil, hrun]
      have hfirst : ∀ n, n ≤ ys.length → (Builtin.firstCells ei.size n (.slice p ys.length cap)).run B.cx.P E.m.w = .ok (es.take (n * size t)).toArray E.m.w := by
       intro n hn
       by_cases hy : ys = []
       ·subst hy
        have hn0 : n = 0 := by simpa using hn
        subst hn0
        cases p with
        | none => simp [Builtin.firstCells]
        | some p =>
         have := run_firstCells_some (P := B.cx.P) E.m.w ei.size 0 p 0 cap [] (by simp) (fun j v hj => by simp at hj)
         simpa using this
       ·obtain ⟨k, off, rfl, hcell⟩ := hsrc hy
        have hm : n * size t ≤ ys.length * size t := Nat.mul_le_mul_right _ hn
        refine run_firstCells_some (P := B.cx.P) E.m.w ei.size n _ _ _ _ (by rw [List.length_take, hlen, hesz, ← hsz]; omega) (fun j v hj => hcell j v ?_)
        rw [List.getElem?_take] at hj
        split at hj
        ·exact hj
        ·cases hj
      by_cases hn : min ys.length len = 0
      ·rw [hn] at h
       have e0 : List.take lo xs ++ List.take 0 ys ++ List.drop (lo + 0) xs = xs := by simp
       rw [e0, hset_self hlk] at h
       refine ⟨_, _, h, .inl ⟨goInt 0, E, does _ _ ?_, hs, rfl, Keeps.refl E, CV.int _ _, by intros; simp⟩⟩
       have hf := hfirst 0 (Nat.zero_le _)
       rw [hv1, hv1', hv2]
       cases a with
       | none => simp [Builtin.copy_, htys, run_und hd, Builtin.lenOf, run_siz hei, hn, hf]
       | some a => simp [Builtin.copy_, htys, run_und hd, Builtin.lenOf, run_siz hei, hn, hf, storeCells]
      ·obtain ⟨k, hk, rfl⟩ := ha (by omega)
       have hne : ys ≠ [] := fun e => hn (by rw [e]; simp)
       rcases hs.blk _ _ hlk with ⟨h7, _⟩ | ⟨k', arr, e2, es0, h7, h8, h9, h10, h11⟩
       ·rw [hk] at h7; cases h7
       rw [hk] at h7; cases h7
       have hlen0 : es0.length = xs.length * size t := Rows.len (s := size t) (fun x cs p => Enc.len t p) h10
       have hn1 : min ys.length len ≤ ys.length := Nat.min_le_left _ _
       have hn2 : min ys.length len ≤ len := Nat.min_le_right _ _
       generalize hnn : min ys.length len = n at *
       have hlt : (es.take (n * size t)).length = n * size t := by
        have hm : n * size t ≤ ys.length * size t := Nat.mul_le_mul_right _ hn1
        rw [List.length_take, hlen]; omega
       have hm2 : (lo + n) * size t ≤ xs.length * size t := Nat.mul_le_mul_right _ (by omega)
       rw [Nat.add_mul] at hm2
       obtain ⟨tl, htl⟩ := h11
       have hasz : es0.length ≤ arr.size := by rw [← Array.length_toList, ← htl]; simp
       obtain ⟨w', arr', s1, s2, s3, s4⟩ := run_storeCells (P := B.cx.P) (off := lo * size t) (es.take (n * size t)) 0 E.m.w arr h9 (by rw [hlt]; omega) (fun v hv => Rows.all (fun x cs p => Enc.one t p) hrows v (List.mem_of_mem_take hv))
       rw [Nat.add_zero] at s3
       have hL : ∀ (x : den t) cs, Enc E.m t x cs → cs.length = size t := fun x cs p => Enc.len t p
       have hsz2 : arr'.size = arr.size := by
        have := congrArg List.length s3
        rw [put_len (by rw [hlt]; simp; omega)] at this
        simpa using this
       have hxl : (List.take lo xs ++ List.take n ys ++ List.drop (lo + n) xs).length = xs.length := by
        simp only [List.length_append, List.length_take, List.length_drop]; omega
       have hal := alike_row t xs (List.take lo xs ++ List.take n ys ++ List.drop (lo + n) xs) hxl.symm
       have hmut : ∀ j, E.m.Mut k j := fun j => (hs.wri k j).2 (.inr ⟨id, _, hlk, hk, fun h => by cases h⟩)
       have hW := writeOK_of (w' := w') hs hlk hk hal h9 s2 hsz2 s4 (fun j hn => absurd (hmut j) hn)
       refine ⟨_, _, h, .inl ⟨goInt n, E.write id _ w', does _ _ ?_, hs.write hW ?_, rfl, ⟨write_le hW, write_goes hW, rfl, write_dkeep hs hW⟩, CV.int _ _, by intros; simp⟩⟩
       ·have hf := hfirst n hn1
        rw [hv1, hv1', hv2]
        simp only [Builtin.copy_, htys, List.getElem?_toArray, List.getElem?_cons_zero, List.getElem?_cons_succ, Sem.run_bind, run_und hd, Result.andThen_ok, Builtin.lenOf, Sem.run_pure, show Nat.min ys.length len = n from hnn, run_siz hei, hf, s1]
        rfl
       ·refine .inr ⟨k, arr', e2, put es0 (lo * size t) (es.take (n * size t)), hk, h8, s2, ?_, ?_⟩
        ·have q1 := (h10.take hL lo).append ((hrows.take hL n).append (h10.drop hL (lo + n)))
         have q2 : put es0 (lo * size t) (es.take (n * size t)) = es0.take (lo * size t) ++ (es.take (n * size t) ++ es0.drop ((lo + n) * size t)) := by
          simp only [put, hlt, Nat.add_mul, List.append_assoc]
         rw [q2, List.append_assoc]
         exact q1.mono fun x cs p => Enc.mono (write_le hW) t p
        ·rw [s3, ← htl, put_app (by rw [hlt]; omega)]
         exact List.prefix_append _ _
     ·cases h
    ·cases h
   ·cases h
  ·cases h
 ·cases h
theorem write_slice {T : TypeId} {x : Operand} {lo hi : Option Operand} (hs : StateOK B E) (hte : ∀ T te, B.cx.te T = some te → TEok B.cx.P T te) (ho : o.op = .slice T x lo hi none) (hx : CV E (av x) (ρ x))
  (hlo : ∀ y, lo = some y → CV E (av y) (ρ y)) (hhi : ∀ y, hi = some y → CV E (av y) (ρ y)) (h : opw B.cx E.H av site o.op g = some r) : WriteGoal B E o ρ F CS g r := by
 rw [ho] at h
 simp only [opw] at h
 split at h
 ·rename_i sz ag n e esz ty eqq zz id y hT hav
  obtain ⟨d, hd, _, h2⟩ := (hte _ _ hT).desc
  simp only [DOK] at h2
  obtain ⟨rfl, ei, hei, hesz⟩ := h2
  rw [hav] at hx
  have hc := hx.one rfl (by simp [skA])
  unfold CC at hc
  obtain ⟨u, e1, _, hv2⟩ := hc
  have hv := (List.cons.inj e1).1
  split at h
  ·rename_i m t xs f kk i hlk hay
   have hy := hhi y rfl
   rw [hay] at hy
   have hyv := hy.int_inv
   split at h
   ·rename_i hmn
    subst hmn
    obtain ⟨hi0, hi1, h⟩ := bndle h
    obtain ⟨k, hk, hp⟩ := hv2 _ hlk
    have hless : HLess (hset E.H id (.box (.dat (.arr m t) xs) true)) E.H := by
     intro j b' hb'
     by_cases ej : id = j
     ·subst ej
      rw [hlook_hset_same hlk] at hb'
      cases hb'
      exact ⟨_, hlk, .box _ _⟩
     ·rw [hlook_hset_other ej] at hb'
      exact ⟨_, hb', .refl _⟩
    have hs' := hs.less hless
    refine ⟨_, _, h, .inl ⟨.slice (some ⟨k, 0, none⟩) i.toNat m, E.less B (hset E.H id (.box (.dat (.arr m t) xs) true)), .inl ?_, hs', rfl, ⟨less_le hs hless, less_goes hless, rfl, fun _ h => h⟩, ?_, by intros; simp⟩⟩
    ·have h3 : (if m = 0 then (⟨k, 0, none⟩ : Addr) else (⟨k, 0, none⟩ : Addr).add 0) = ⟨k, 0, none⟩ := by split <;> simp [Addr.add]
     simp [execOp, ho, hv, hp, hyv, offK, Instr.sliceAt, run_und hd, Instr.sureAddr, Instr.sliceBounds, Instr.sliceBound, asIntOf, hi0, hi1, run_siz hei, h3]
     rfl
    ·refine CV.of1 ?_ rfl
     obtain ⟨k', arr, e', p1, p2, p3, p4⟩ := hs'.blk _ _ (hlook_hset_same hlk)
     rw [show (E.less B (hset E.H id (.box (.dat (.arr m t) xs) true))).ρ = E.ρ from rfl, hk] at p1
     cases p1
     unfold CC at p4
     unfold Enc at p4
     unfold CC
     unfold Enc
     have hlx := p4.1
     have hll : List.length (List.take i.toNat xs) = i.toNat := by rw [List.length_take]; omega
     refine ⟨some ⟨k, 0, none⟩, m, by rw [hll], by rw [hll]; omega, fun hne => ⟨k, 0, _, rfl, p4.2.take (fun x cs p => Enc.len t p) i.toNat, fun j v hj => ⟨?_, fun hm => ?_⟩⟩⟩
     ·rw [List.getElem?_take] at hj
      split at hj
      ·rw [Nat.zero_add]
       simp only [Mem.cell, World.cell?, p3]
       simpa using hj
      ·cases hj
     ·rw [Nat.zero_add] at hm
      rcases hm with hf | ⟨id', b, h6, h7, h8⟩
      ·exact hs.fo.2 _ _ _ _ hlk hk hf
      ·have := hs'.inj _ _ _ _ _ (hlook_hset_same hlk) h6 hk h7
       subst this
       rw [hlook_hset_same hlk] at h6
       cases h6
       cases h8
   ·cases h
  ·cases h
 ·rename_i lo hi sz ag n e esz ty eqq zz id hT hav _
  obtain ⟨d, hd, _, h2⟩ := (hte _ _ hT).desc
  simp only [DOK] at h2
  obtain ⟨rfl, ei, hei, hesz⟩ := h2
  rw [hav] at hx
  have hc := hx.one rfl (by simp [skA])
  unfold CC at hc
  obtain ⟨u, e1, _, hv2⟩ := hc
  have hv := (List.cons.inj e1).1
  split at h
  ·rename_i b f l hh hlk hbl hbh
   split at h
   ·rename_i m s hsk
    split at h
    ·rename_i hcond
     obtain ⟨hm, hsz⟩ := hcond
     obtain ⟨h0, h1, h3, h⟩ := bnd3 h
     obtain ⟨k, hk, hp⟩ := hv2 _ hlk
     have hlb := bndA_ok hbl hlo
     have hhb := bndA_ok hbh hhi
     refine ⟨_, _, h, .inl ⟨.slice (if n = l.toNat then some ⟨k, 0, none⟩ else some ⟨k, l.toNat * esz, none⟩) (hh - l).toNat (n - l.toNat), E, .inl ?_, hs, rfl, Keeps.refl E, ?_, by intros; simp⟩⟩
     ·have hadd : (if n = l.toNat then (⟨k, 0, none⟩ : Addr) else (⟨k, 0, none⟩ : Addr).add (l.toNat * ei.size)) = if n = l.toNat then ⟨k, 0, none⟩ else ⟨k, l.toNat * esz, none⟩ := by
       rw [hesz]
       split
       ·rfl
       ·simp [add_at]
      have hsame : (if n = l.toNat then (some ⟨k, 0, none⟩ : Option Addr) else some ⟨k, l.toNat * esz, none⟩) = some (if n = l.toNat then ⟨k, 0, none⟩ else ⟨k, l.toNat * esz, none⟩) := by split <;> rfl
      have e2 : hh.toNat - l.toNat = (hh - l).toNat := by omega
      have e3 : 0 ≤ hh := by omega
      rw [hsame, ← hadd, ← e2]
      rcases hlb with ⟨rfl, rfl⟩ | ⟨y, k1, rfl, hy⟩
      ·rcases hhb with ⟨rfl, rfl⟩ | ⟨y2, k2, rfl, hy2⟩
       ·simp [execOp, ho, hv, hp, offK, Instr.sliceAt, run_und hd, Instr.sureAddr, Instr.sliceBounds, run_siz hei]
       ·simp [execOp, ho, hv, hp, offK, Instr.sliceAt, run_und hd, Instr.sureAddr, Instr.sliceBounds, Instr.sliceBound, asIntOf, hy2, e3, h3, run_siz hei]
      ·rcases hhb with ⟨rfl, rfl⟩ | ⟨y2, k2, rfl, hy2⟩
       ·simp [execOp, ho, hv, hp, offK, Instr.sliceAt, run_und hd, Instr.sureAddr, Instr.sliceBounds, Instr.sliceBound, asIntOf, hy, h0, h1, run_siz hei]
       ·simp [execOp, ho, hv, hp, offK, Instr.sliceAt, run_und hd, Instr.sureAddr, Instr.sliceBounds, Instr.sliceBound, asIntOf, hy, hy2, h0, h3, e3, run_siz hei]
        intro hc
        omega
     ·refine CV.of1 ?_ rfl
      unfold CC
      refine ⟨_, rfl, rfl, fun t xs l' hl' => (by rw [hlk] at hl'; cases hl'), fun b' f' n' s' hl' hsk' hn' => ?_⟩
      rw [hlk] at hl'
      cases hl'
      rw [hsk] at hsk'
      cases hsk'
      refine ⟨by omega, _, _, rfl, by omega, fun hlt => ⟨k, hk, ?_⟩⟩
      rw [if_neg (by omega), hsz]
    ·cases h
   ·cases h
  ·cases h
 ·rename_i sz ag el esz ty eqq zz id y hT hav
  obtain ⟨d, hd, _, h2⟩ := (hte _ _ hT).desc
  simp only [DOK] at h2
  obtain ⟨rfl, ei, hei, hesz, _⟩ := h2
  rw [hav] at hx
  have hc := hx.one rfl (by simp [skA])
  unfold CC at hc
  obtain ⟨v, e, hv1, hv2⟩ := hc
  have hv := (List.cons.inj e).1
  split at h
  ·rename_i t xs k n hl hay
   have hy := hhi y rfl
   rw [hay] at hy
   have hn := hy.int_inv
   split at h
   ·rename_i hcond
    obtain ⟨hi0, hi1, hg⟩ := bndle h
    rcases hv2 _ _ _ hl with ⟨hq, rfl, a, rfl⟩ | ⟨kb, cap, el, p1, rfl, p3, p4⟩
    ·have hn0 : n.toNat = 0 := by simp at hi1; omega
     obtain ⟨b1, b2, b3⟩ := nil_row (id := id) (t := t) (l := false) hs a _ (show (.row t (List.take n.toNat ([] : List (den t))) false : Blk) = .row t [] false by rw [List.take_nil])
     refine ⟨_, _, hg, .inr ⟨.slice a 0 0, _, id, _, none, rfl, rfl, .inl ?_, b1, b2, b3⟩⟩
     have := run_slice_hi (P := B.cx.P) (w := E.m.w) (n := 0) (cap := 0) (a := a) (k := k) (j := n) hd hei hi0 (by simpa using hi1)
     rw [hn0] at this
     simp only [execOp, ho, hv, hn, Option.map, Sem.run_bind, this, Result.andThen_ok, Sem.run_pure]
    ·rcases hs.blk _ _ hl with ⟨hk', _⟩ | ⟨kb', arr, e2, es, hk', hkb, hbh, hr, hpre⟩
     ·rw [p1] at hk'; cases hk'
     ·rw [p1] at hk'
      cases hk'
      have hsz : arr.size = cap * size t := by
       simp only [World.shape?, hbh, Option.some.injEq, Prod.mk.injEq] at p4
       exact p4.2
      have hlen : List.length (List.take n.toNat xs) = n.toNat := by rw [List.length_take]; omega
      obtain ⟨b1, b2, b3⟩ := cut_row (ys := List.take n.toNat xs) (es := es.take (n.toNat * size t)) hs hl p1 hkb hbh hsz (hr.take (fun x cs p => Enc.len t p) n.toNat) ((List.take_prefix _ _).trans hpre) (by omega)
      rw [hlen] at b3
      refine ⟨_, _, hg, .inr ⟨_, _, id, _, _, rfl, rfl, .inl ?_, b1, b2, b3⟩⟩
      simp only [execOp, ho, hv, hn, Option.map, Sem.run_bind, run_slice_hi hd hei hi0 (Int.le_trans hi1 (Int.ofNat_le.2 p3)), Result.andThen_ok, Sem.run_pure]
   ·cases h
  ·cases h
 ·cases h
theorem write_buildSlice {T : TypeId} {n : Nat} {ps : Array (Nat × Operand)} (hs : StateOK B E) (hte : ∀ T te, B.cx.te T = some te → TEok B.cx.P T te) (ho : o.op = .buildSlice T n ps) (hx : ∀ p ∈ ps.toList, CV E (av p.2) (ρ p.2))
  (h : opw B.cx E.H av site o.op g = some r) : WriteGoal B E o ρ F CS g r := by
 rw [ho] at h
 simp only [opw] at h
 split at h
 ·rename_i sz ag el esz ty eqq zz hT
  obtain ⟨d, h1, _, h2⟩ := (hte _ _ hT).desc
  simp only [DOK] at h2
  obtain ⟨rfl, ei, h3, h4, h5⟩ := h2
  split at h
  ·rename_i sz' ag' d' t eqq' z hT'
   have hT' := hte _ _ hT'
   obtain ⟨hsz, hag, _⟩ := hT'.ty t rfl
   split at h
   ·rename_i hcond
    obtain ⟨hn0, hcond⟩ := hcond
    split at h
    ·rename_i x0 hx0
     split at h
     ·rename_i xs hxs
      obtain ⟨hz1, hz2, i, zv, hz3, hz4, hz5⟩ := hT'.zero z rfl
      obtain ⟨cs, h6, h7⟩ := hz5 ⟨E.m, E.ρ, []⟩
      have hzc : zv.cells.toList = cs := ofCells_cells h6 h7
      have he0 : Enc E.m t x0 zv.cells.toList := by rw [hzc]; exact toDat_spec (E := ⟨E.m, E.ρ, []⟩) (fun id t xs h => by simp [hlook] at h) t z h6 hx0
      have hzs : zv.cells.size = size t := by have := Enc.len t he0; simpa using this
      have hpos : 1 ≤ size t := by rw [hsz]; exact hT'.pos
      rw [h3] at hz3
      cases hz3
      obtain ⟨i', q1, q2⟩ := hT'.info
      rw [h3] at q1
      cases q1
      have hes : ei.size = size t := by rw [hsz]; exact q2
      have harr : ((Array.range (n * ei.size)).map (fun j => zv.cells[j % zv.cells.size]!)).toList = (List.replicate n zv.cells.toList).flatten := by
       rw [Array.toList_map, Array.toList_range, hes, ← range_flatten zv.cells (size t) hzs n, hzs]
      obtain ⟨arr', p1, p2, p3⟩ := datsOf_ok hs.lent hpos (pm := fun j => some (j * ei.size, ei.size)) (fun j => by rw [hes]) (n := n) ps.toList hx (fun p hp => by
       have := hcond.1
       simp only [List.all_eq_true, decide_eq_true_eq] at this
       exact this p hp) (by simp) (arr := (Array.range (n * ei.size)).map (fun j => zv.cells[j % zv.cells.size]!)) (by rw [harr]; exact Rows.replicate he0 n) hxs
      have hmap : (ps.map fun (p : Nat × Operand) => (p.1, ρ p.2)).toList = ps.toList.map fun p => (p.1, ρ p.2) := by simp
      have hrun : Does B.cx.P o ρ E.m.w F CS (.slice (some ⟨E.m.w.heap.size, 0, none⟩) n n) { E.m.w with heap := E.m.w.heap.push (.cells arr' el (0, 0)) } := by
       refine .inl ?_
       have hne : ¬ n * ei.size = 0 := by rw [hes]; exact Nat.ne_of_gt (Nat.mul_pos (by omega) (by omega))
       have hbig : ¬ n * ei.size > 2 ^ 24 := by
        have := hcond.2
        simp only at q2
        rw [← q2] at this
        simpa using this
       simp only [execOp, ho, Instr.buildSlice, Sem.run_bind, run_und h1, Result.andThen_ok, run_siz h3, Sem.run_ite, if_neg hbig, if_neg hne, run_zer h3 hz4, Sem.run_pure, hmap, p1, newRow, run_newObj]
      have hlen : arr'.toList.length = xs.length * size t := Rows.len (s := size t) (fun x cs p => Enc.len t p) p2
      obtain ⟨r1, r2, r3⟩ := new_row (id := site) (l := false) (e := el) (cap := n) (w' := { E.m.w with heap := E.m.w.heap.push (.cells arr' el (0, 0)) }) hs rfl rfl rfl rfl p2 (List.prefix_refl _) (by rw [← Array.length_toList, hlen, p3]) (by rw [p3]; exact Nat.le_refl n)
      rw [p3] at r3
      exact ⟨_, _, h, .inr ⟨_, _, site, _, _, rfl, rfl, hrun, r1, r2, r3⟩⟩
     ·cases h
    ·cases h
   ·cases h
  ·cases h
 ·cases h
end
end Go.Gh
/- The ghost machine: maps of handles. Conditions: as each lemma states. -/
namespace Go.Gh
mutual
def plainT : Ty → Bool
 | .int _ | .bool => true
 | .struct fs => plainTL fs
 | .arr _ t => plainT t
 | _ => false
def plainTL : List Ty → Bool
 | [] => true
 | t :: ts => plainT t && plainTL ts
end
mutual
theorem eqD_eq : (t : Ty) → plainT t = true → ∀ {x y : den t}, eqD t x y = true → x = y
 | .int _, _, x, y, h => by simp only [eqD, beq_iff_eq] at h; exact h
 | .bool, _, x, y, h => by simp only [eqD, beq_iff_eq] at h; exact h
 | .struct fs, hp, x, y, h => by simp only [eqD, plainT] at h hp; exact eqDL_eq fs hp h
 | .arr n t, hp, x, y, h => by simp only [eqD, plainT] at h hp; exact eqDs_eq t (eqD_eq t hp) h
 | .str, hp, _, _, _ | .slice _, hp, _, _, _ | .hnd _ _, hp, _, _, _ => by simp [plainT] at hp
theorem eqDL_eq : (ts : List Ty) → plainTL ts = true → ∀ {x y : denL ts}, eqDL ts x y = true → x = y
 | [], _, _, _, _ => rfl
 | t :: ts, hp, x, y, h => by
  simp only [eqDL, plainTL, Bool.and_eq_true] at h hp
  exact Prod.ext (eqD_eq t hp.1 h.1) (eqDL_eq ts hp.2 h.2)
theorem eqDs_eq (t : Ty) (ih : ∀ {x y : den t}, eqD t x y = true → x = y) : ∀ {xs ys : List (den t)}, eqDs t xs ys = true → xs = ys
 | [], [], _ => rfl
 | x :: xs, y :: ys, h => by
  simp only [eqDs, Bool.and_eq_true] at h
  rw [ih h.1, eqDs_eq t @ih h.2]
 | [], _ :: _, h | _ :: _, [], h => by simp [eqDs] at h
end
def pick (z : Value) : Option (Nat × Value) → Value × Bool
 | some (_, v) => (v, true)
 | none => (z, false)
structure MapOK (P : Program) (mm : Memo) : Prop where
 plain : plainT mm.key = true
 map : ∃ K V iv zv, P.underlying mm.M = some (.map K V) ∧ P.info? V = some iv ∧ iv.zero = some zv ∧ (∀ m, EV m mm.val (dflt mm.val) zv) ∧ EqTy P K mm.key ∧ (P.underlying K).isSome = true ∧
  ∀ m x v w b, EV m mm.key x v → (Instr.checkKey b 10000 K v).run P w = .ok () w
theorem sameNow_true {m : Mem} {t : Ty} {d : TypeDesc} {x y : den t} {v u : Value} (hp : plainT t = true) (hx : EV m t x v) (hy : EV m t y u) (h : Instr.sameNow d v u = some true) : eqD t x y = true := by
 obtain ⟨cs, h1, h2⟩ := hx
 obtain ⟨cs', h3, h4⟩ := hy
 unfold Instr.sameNow at h
 cases t with
 | int k =>
  unfold Enc at h1 h3
  subst h1 h3
  simp only [ofCells, Ty.isAgg, Bool.false_eq_true, if_false, List.cons.injEq, and_true] at h2 h4
  subst h2 h4
  split at h
  ·rename_i e1 e2
   cases e1; cases e2
   split at h
   ·simpa [eqD] using h
   ·cases h
  ·rename_i e1 _; cases e1
  ·rename_i e1 _; cases e1
  ·cases h
 | bool =>
  unfold Enc at h1 h3
  subst h1 h3
  simp only [ofCells, Ty.isAgg, Bool.false_eq_true, if_false, List.cons.injEq, and_true] at h2 h4
  subst h2 h4
  split at h
  ·rename_i e1 _; cases e1
  ·rename_i e1 _; cases e1
  ·rename_i e1 e2
   cases e1; cases e2
   simpa [eqD] using h
  ·cases h
 | struct fs =>
  simp only [ofCells, Ty.isAgg, if_true] at h2 h4
  subst h2 h4
  split at h
  ·rename_i e1 _; cases e1
  ·rename_i e1 _; cases e1
  ·rename_i e1 _; cases e1
  ·cases h
 | arr n t =>
  simp only [ofCells, Ty.isAgg, if_true] at h2 h4
  subst h2 h4
  split at h
  ·rename_i e1 _; cases e1
  ·rename_i e1 _; cases e1
  ·rename_i e1 _; cases e1
  ·cases h
 | _ => simp [plainT] at hp
def Found {m : Mem} {t : Ty} (Q : den t → MapEntry → Prop) (x : den t) (es : List MapEntry) (i0 : Nat) (r : Option (Nat × Value)) : Prop :=
 ∀ i u, r = some (i, u) → ∃ j e y, i = i0 + j ∧ es[j]? = some e ∧ e.val = u ∧ EV m t y e.key ∧ eqD t x y = true ∧ Q y e
theorem Found.cons {m : Mem} {t : Ty} {Q : den t → MapEntry → Prop} {x : den t} {e : MapEntry} {es : List MapEntry} {i0 : Nat} {r : Option (Nat × Value)} (h : Found (m := m) Q x es (i0 + 1) r) : Found (m := m) Q x (e :: es) i0 r := by
 intro i u hr
 obtain ⟨j, e, y, h1, h2, h3, h4, h5⟩ := h i u hr
 exact ⟨j + 1, e, y, by omega, by simpa using h2, h3, h4, h5⟩
theorem findNow_ok {m : Mem} {t : Ty} {Q : den t → MapEntry → Prop} {d : TypeDesc} {x : den t} {v : Value} (hp : plainT t = true) (hx : EV m t x v) : ∀ (es : List MapEntry) (i0 : Nat) (r : Option (Nat × Value)), (∀ e ∈ es, ∃ y, EV m t y e.key ∧ Q y e) → Instr.findNow d v es i0 = some r → Found (m := m) Q x es i0 r
 | [], i0, r, _, h => by simp only [Instr.findNow, Option.some.injEq] at h; subst h; intro i u hr; cases hr
 | e :: es, i0, r, he, h => by
  obtain ⟨y, hy, hQ⟩ := he e (by simp)
  simp only [Instr.findNow] at h
  split at h
  ·rename_i hs
   cases h
   intro i u hr
   cases hr
   exact ⟨0, e, y, rfl, rfl, rfl, hy, sameNow_true hp hx hy hs, hQ⟩
  ·exact (findNow_ok hp hx es (i0 + 1) r (fun e h => he e (by simp [h])) h).cons
  ·cases h
theorem findAsking_ok {P : Program} {w : World} {K : TypeId} {m : Mem} {t : Ty} {Q : den t → MapEntry → Prop} {x : den t} {v : Value} (heq : EqTy P K t) (hx : EV m t x v) : ∀ (es : List MapEntry) (i0 : Nat), (∀ e ∈ es, ∃ y, EV m t y e.key ∧ Q y e) →
  ∃ r, (Instr.findAsking K v es i0).run P w = .ok r w ∧ Found (m := m) Q x es i0 r
 | [], i0, _ => ⟨none, rfl, fun i u hr => by cases hr⟩
 | e :: es, i0, he => by
  obtain ⟨y, hy, hQ⟩ := he e (by simp)
  have h1 := heq.eq m x y v e.key w hx hy
  cases hq : eqD t x y with
  | true =>
   refine ⟨some (i0, e.val), ?_, fun i u hr => ?_⟩
   ·simp only [Instr.findAsking, Sem.run_bind, h1, Result.andThen_ok, hq, if_true, Sem.run_pure]
   ·cases hr
    exact ⟨0, e, y, rfl, rfl, rfl, hy, hq, hQ⟩
  | false =>
   obtain ⟨r, h2, h3⟩ := findAsking_ok (w := w) heq hx es (i0 + 1) (fun e h => he e (by simp [h]))
   refine ⟨r, ?_, h3.cons⟩
   simp only [Instr.findAsking, Sem.run_bind, h1, Result.andThen_ok, hq, Bool.false_eq_true, if_false, h2]
theorem findKey_ok {P : Program} {w : World} {K : TypeId} {m : Mem} {t : Ty} {Q : den t → MapEntry → Prop} {x : den t} {v : Value} (heq : EqTy P K t) (hK : (P.underlying K).isSome = true) (hp : plainT t = true) (hx : EV m t x v) (es : List MapEntry) (he : ∀ e ∈ es, ∃ y, EV m t y e.key ∧ Q y e) :
  ∃ r, (Instr.findKey K v es).run P w = .ok r w ∧ Found (m := m) Q x es 0 r := by
 obtain ⟨d, hd⟩ := Option.isSome_iff_exists.1 hK
 cases hq : Instr.findNow d v es 0 with
 | some r =>
  refine ⟨r, ?_, findNow_ok hp hx es 0 r he hq⟩
  simp only [Instr.findKey, Sem.run_bind, run_und hd, Result.andThen_ok, hq, Sem.run_pure]
 | none =>
  obtain ⟨r, h1, h2⟩ := findAsking_ok (w := w) heq hx es 0 he
  refine ⟨r, ?_, h2⟩
  simp only [Instr.findKey, Sem.run_bind, run_und hd, Result.andThen_ok, hq, h1]
theorem run_getMap {P : Program} {w : World} {r : Nat} {es : Array MapEntry} {clock : Nat} (hb : w.heap[r]? = some (.map es clock)) : (getObj r).run P w = .ok (.map es clock) w := by
 simp [getObj, Sem.run, hb]
theorem run_setMap {P : Program} {w : World} {r : Nat} {es : Array MapEntry} {clock : Nat} (o : Obj) (hb : w.heap[r]? = some (.map es clock)) : (setObj r o).run P w = .ok () { w with heap := w.heap.setIfInBounds r o } := by
 simp [setObj, Sem.run, hb]
theorem keyStays_ok {P : Program} {w : World} (old new : Value) : ∃ k w', (Instr.keyThatStays old new).run P w = .ok k w' ∧ (k = old ∨ k = new) ∧ (w' = w ∨ w' = w.drew) := by
 unfold Instr.keyThatStays
 by_cases h : Instr.sameBits 10000 old new = true
 ·exact ⟨new, w, by simp [h], .inr rfl, .inl rfl⟩
 ·simp only [h, if_false, Sem.run_bind, Bool.false_eq_true, run_choose]
  split
  ·refine ⟨_, w, rfl, ?_, .inl rfl⟩
   split <;> simp
  ·refine ⟨_, w.drew, rfl, ?_, .inr rfl⟩
   split <;> simp
section
variable {R : Type} {B : Base} {E : Env} {o : Oper} {av : Operand → AV} {ρ : Operand → Value} {F : Frame} {CS : List Frame} {site : Nat} {g : AV → Heap → Option R} {r : R}
theorem memo_of (hs : StateOK B E) {i : Nat} {t : Ty} {y : den t} {mm : Memo} {y' : denL mm.ts} {v : Value} (hc : CV E (.hm i t y) v) (hm : B.cx.memo i = some mm) (hy : castT t (.struct mm.ts) y = some y') :
  ∃ km es clock, v = .map (some km) ∧ E.m.M km = some (i, ⟨t, y⟩) ∧ E.m.w.heap[km]? = some (.map es clock) ∧ ∀ e ∈ es, ∃ kx vx, EV E.m mm.key kx e.key ∧ EV E.m mm.val vx e.val ∧ mm.f y' kx = some vx := by
 have h1 := hc.one rfl (by simp [skA])
 unfold CC at h1
 obtain ⟨km, e, h2⟩ := h1
 obtain ⟨es, clock, mm', x, h3, h4, h5, h6⟩ := hs.memo km i t y h2
 rw [hm] at h4; cases h4
 rw [hy] at h5; cases h5
 exact ⟨km, es, clock, (List.cons.inj e).1, h2, h3, h6⟩
theorem EV.cv {t : Ty} {x : den t} {v : Value} (h : EV E.m t x v) : CV E (.dat t x) v := by
 obtain ⟨cs, h1, h2⟩ := h
 exact CV.mk (by unfold CC; exact h1) h2
theorem write_lookup {T : TypeId} {x k : Operand} (hs : StateOK B E) (hmo : ∀ i mm, B.cx.memo i = some mm → MapOK B.cx.P mm) (ho : o.op = .lookup T x k true)
  (hx : CV E (av x) (ρ x)) (hk : CV E (av k) (ρ k)) (h : opw B.cx E.H av site o.op g = some r) : WriteGoal B E o ρ F CS g r := by
 rw [ho] at h
 simp only [opw] at h
 split at h
 ·rename_i i t y hav
  split at h
  ·rename_i mm hmm
   split at h
   ·rename_i hMT
    split at h
    ·rename_i y' kx hy' hkx
     rw [hav] at hx
     obtain ⟨km, es, clock, hv, hM, hh, hes⟩ := memo_of hs hx hmm hy'
     have hkv := toDat_EV hs.lent hk hkx
     obtain ⟨hpl, K, V, iv, zv, p1, p2, p3, p4, p5, p6, p7⟩ := hmo _ _ hmm
     obtain ⟨fr, q1, q2⟩ := findKey_ok (P := B.cx.P) (w := E.m.w) (Q := fun kx e => ∃ vx, EV E.m mm.val vx e.val ∧ mm.f y' kx = some vx) p5 p6 hpl hkv es.toList (fun e he => let ⟨kx, vx, h, h'⟩ := hes e (by simpa using he); ⟨kx, h, vx, h'⟩)
     rw [← hMT] at ho
     have hrun : (execOp ρ o).run B.cx.P E.m.w = .ok (.value (.tuple #[(pick zv fr).1, .bool (pick zv fr).2])) E.m.w := by
      cases fr with
      | none => simp only [execOp, ho, hv, Instr.lookup, Sem.run_bind, run_und p1, Result.andThen_ok, run_getMap hh, Sem.run_pure, p7 _ _ _ _ _ hkv, q1, run_zer p2 p3, if_true, pick]
      | some fr => simp only [execOp, ho, hv, Instr.lookup, Sem.run_bind, run_und p1, Result.andThen_ok, run_getMap hh, Sem.run_pure, p7 _ _ _ _ _ hkv, q1, if_true, pick]
     have cvt : ∀ (u : den mm.val) (b : Bool) (v : Value), EV E.m mm.val u v → CV E (.tup [.dat mm.val u, .dat .bool b]) (.tuple #[v, .bool b]) := by
      intro u b v hu
      refine ⟨[v, .bool b], rfl, ?_⟩
      unfold CVL
      obtain ⟨cs, c1, c2⟩ := hu
      refine ⟨v, _, rfl, .inl ⟨cs, by unfold CC; exact c1, c2⟩, ?_⟩
      unfold CVL
      exact ⟨_, [], rfl, .inl ⟨[.bool b], by unfold CC; unfold Enc; rfl, by simp [ofCells, AV.isAgg, Ty.isAgg]⟩, by unfold CVL; rfl⟩
     have hdem : (fr = none → g (.tup [.dat mm.val (dflt mm.val), .dat .bool false]) E.H = some r) ∧ (∀ u, mm.f y' kx = some u → g (.tup [.dat mm.val u, .dat .bool true]) E.H = some r) := by
      cases hf : mm.f y' kx with
      | none => rw [hf] at h; exact ⟨fun _ => h, fun u hu => by cases hu⟩
      | some u =>
       rw [hf] at h
       simp only [demL, dem] at h
       split at h
       ·rename_i he
        exact ⟨fun _ => h, fun u' hu' => by cases hu'; rw [← he]; exact h⟩
       ·cases h
     cases hfr : fr with
     | none =>
      rw [hfr] at hrun
      exact ⟨_, _, hdem.1 hfr, .inl ⟨_, E, .inl hrun, hs, rfl, Keeps.refl E, cvt _ _ _ (p4 _), by intros; simp⟩⟩
     | some iu =>
      obtain ⟨i', u⟩ := iu
      rw [hfr] at hrun
      obtain ⟨j, e, ky, r1, r2, r3, r4, r5, vx, s2, s3⟩ := q2 i' u hfr
      have hkk := eqD_eq _ hpl r5
      subst hkk
      exact ⟨_, _, hdem.2 vx s3, .inl ⟨_, E, .inl hrun, hs, rfl, Keeps.refl E, cvt _ _ _ (by rw [← r3] at *; exact s2), by intros; simp⟩⟩
    ·cases h
   ·cases h
  ·cases h
 ·cases h
theorem map_world (hs : StateOK B E) {i : Nat} {t : Ty} {y : den t} {mm : Memo} {y' : denL mm.ts} {km : Nat} {es es' : Array MapEntry} {clock clock' : Nat} {w' : World} (hm : B.cx.memo i = some mm) (hy : castT t (.struct mm.ts) y = some y')
  (hM : E.m.M km = some (i, ⟨t, y⟩)) (hh : E.m.w.heap[km]? = some (.map es clock)) (hw : w'.heap = E.m.w.heap.setIfInBounds km (.map es' clock')) (h1 : w'.os = E.m.w.os) (h2 : w'.tape = E.m.w.tape) (h3 : w'.output = E.m.w.output)
  (hes : ∀ e ∈ es', ∃ kx vx, EV E.m mm.key kx e.key ∧ EV E.m mm.val vx e.val ∧ mm.f y' kx = some vx) : WorldOK B E w' E.m.M := by
 have hlt := lt_of_some hh
 have hsame : ∀ k, k ≠ km → w'.heap[k]? = E.m.w.heap[k]? := fun k hk => by rw [hw, Array.getElem?_setIfInBounds, if_neg (Ne.symm hk)]
 have hnew : w'.heap[km]? = some (.map es' clock') := by rw [hw, Array.getElem?_setIfInBounds, if_pos rfl, if_pos hlt]
 have hle : E.m.le (E.world w' E.m.M).m := by
  refine ⟨fun k j v hc hn => ⟨?_, hn⟩, fun _ _ h => h, fun k x hk => ?_⟩
  ·have hk : k ≠ km := fun e => by subst e; simp [Mem.cell, World.cell?, hh] at hc
   show w'.cell? _ = _
   rw [cell_block (hsame k hk) j]; exact hc
  ·have hk' : k ≠ km := fun e => by subst e; simp [World.shape?, hh] at hk
   show w'.shape? _ = _
   rw [shape_block (hsame k hk')]; exact hk
 refine ⟨by rw [hw]; simp, h1, h2, h3, fun k _ => ?_, fun _ _ h => h, hs.late, fun k i2 t2 y2 hk => ?_⟩
 ·by_cases e : k = km
  ·subst e; exact .inr (by rw [hM]; rfl)
  ·exact .inl (hsame k e)
 ·by_cases e : k = km
  ·subst e
   rw [show (E.world w' E.m.M).m.M = E.m.M from rfl, hM] at hk
   cases hk
   exact ⟨es', clock', mm, y', hnew, hm, hy, fun e he => let ⟨kx, vx, a, b, c⟩ := hes e he; ⟨kx, vx, a.mono hle, b.mono hle, c⟩⟩
  ·obtain ⟨es2, clock2, mm2, x2, q1, q2, q3, q4⟩ := hs.memo k i2 t2 y2 hk
   exact ⟨es2, clock2, mm2, x2, by rw [← q1]; exact hsame k e, q2, q3, fun e he => let ⟨kx, vx, a, b, c⟩ := q4 e he; ⟨kx, vx, a.mono hle, b.mono hle, c⟩⟩
theorem write_mapUpdate {T : TypeId} {x k v : Operand} (hs : StateOK B E) (hmo : ∀ i mm, B.cx.memo i = some mm → MapOK B.cx.P mm) (ho : o.op = .mapUpdate T x k v)
  (hx : CV E (av x) (ρ x)) (hk : CV E (av k) (ρ k)) (hv : CV E (av v) (ρ v)) (h : opw B.cx E.H av site o.op g = some r) : WriteGoal B E o ρ F CS g r := by
 rw [ho] at h
 simp only [opw] at h
 split at h
 ·rename_i i t y hav
  split at h
  ·rename_i mm hmm
   split at h
   ·rename_i hMT
    split at h
    ·rename_i y' kx vx hy' hkx hvx
     simp only [guardP] at h
     split at h
     ·rename_i hf
      rw [hav] at hx
      obtain ⟨km, es, clock, hvm, hM, hh, hes⟩ := memo_of hs hx hmm hy'
      have hkv := toDat_EV hs.lent hk hkx
      have hvv := toDat_EV hs.lent hv hvx
      obtain ⟨hpl, K, V, iv, zv, p1, p2, p3, p4, p5, p6, p7⟩ := hmo _ _ hmm
      obtain ⟨fr, q1, q2⟩ := findKey_ok (P := B.cx.P) (w := E.m.w) (Q := fun _ _ => True) p5 p6 hpl hkv es.toList (fun e he => let ⟨kx, vx, h, h'⟩ := hes e (by simpa using he); ⟨kx, h, trivial⟩)
      rw [← hMT] at ho
      have done : ∀ w', (execOp ρ o).run B.cx.P E.m.w = .ok .skip w' ∨ (execOp ρ o).run B.cx.P E.m.w = .ok (.value undef) w' → WorldOK B E w' E.m.M → WriteGoal B E o ρ F CS g r := by
       intro w' hrun hW
       refine ⟨_, _, h, .inl ⟨undef, E.world w' E.m.M, ?_, hs.world hW, rfl, ⟨world_le hs hW, world_goes, rfl, world_dkeep hs hW⟩, trivial, by intros; simp⟩⟩
       rcases hrun with hrun | hrun
       ·exact .inr (.inl ⟨hrun, rfl⟩)
       ·exact .inl hrun
      cases fr with
      | none =>
       refine done { E.m.w with heap := E.m.w.heap.setIfInBounds km (.map (es.push { key := ρ k, val := ρ v, born := clock }) (clock + 1)) } (.inl ?_) (map_world hs hmm hy' hM hh rfl rfl rfl rfl (fun e he => ?_))
       ·simp only [execOp, ho, hvm, Instr.mapUpdate, Sem.run_bind, run_und p1, Result.andThen_ok, run_getMap hh, p7 _ _ _ _ _ hkv, q1, run_setMap _ hh, Sem.run_pure]
       ·rcases Array.mem_push.1 he with he | rfl
        ·exact hes e he
        ·exact ⟨kx, vx, hkv, hvv, hf⟩
      | some iu =>
       obtain ⟨i', u⟩ := iu
       obtain ⟨j, e, ky, r1, r2, r3, r4, r5, _⟩ := q2 i' u rfl
       have hkk := eqD_eq _ hpl r5
       subst hkk
       rw [Nat.zero_add] at r1
       subst r1
       have hej : es[i']? = some e := by simpa using r2
       obtain ⟨k', w', s1, s2, s3⟩ := keyStays_ok (P := B.cx.P) (w := E.m.w) e.key (ρ k)
       have hh' : w'.heap[km]? = some (.map es clock) := by rcases s3 with rfl | rfl <;> exact hh
       have hk' : EV E.m mm.key kx k' := by
        rcases s2 with rfl | rfl
        ·exact r4
        ·exact hkv
       refine done { w' with heap := w'.heap.setIfInBounds km (.map (es.modify i' fun e => { e with key := k', val := ρ v }) clock) } (.inl ?_) (map_world hs hmm hy' hM hh (clock' := clock) (es' := es.modify i' fun e => { e with key := k', val := ρ v }) ?_ ?_ ?_ ?_ (fun e he => ?_))
       ·simp only [execOp, ho, hvm, Instr.mapUpdate, Sem.run_bind, run_und p1, Result.andThen_ok, run_getMap hh, p7 _ _ _ _ _ hkv, q1, hej, Option.map_some, Option.getD_some, s1, run_setMap _ hh', Sem.run_pure]
       ·rcases s3 with rfl | rfl <;> rfl
       ·rcases s3 with rfl | rfl <;> rfl
       ·rcases s3 with rfl | rfl <;> rfl
       ·rcases s3 with rfl | rfl <;> rfl
       ·obtain ⟨n, hn, he'⟩ := Array.mem_iff_getElem.1 he
        have hn' : n < es.size := by simpa using hn
        rw [Array.getElem_modify] at he'
        split at he'
        ·subst he'
         exact ⟨kx, vx, hk', hvv, hf⟩
        ·subst he'
         exact hes _ (Array.getElem_mem _)
     ·cases h
    ·cases h
   ·cases h
  ·cases h
 ·cases h
structure CtxOKb (cx : Ctx) : Prop extends CtxOK cx where
 map : ∀ i mm, cx.memo i = some mm → MapOK cx.P mm
 inl : ∀ f fn, cx.inl f = true → cx.P.funcs[f]? = some fn → fn.name ≠ "runtime.NumGoroutine"
 mixed : cx.P.follows .mixedOrders = true
 globm : ∀ g id, men id (cx.glob g) = false
theorem opw_ok (hs : StateOK B E) (hcx : CtxOKb B.cx) (hav : ∀ x ∈ o.op.operands, CV E (av x) (ρ x)) (h : opw B.cx E.H av site o.op g = some r) : WriteGoal B E o ρ F CS g r := by
 cases ho : o.op with
 | store T x v => rw [ho] at hav; exact write_store hs hcx.te ho (hav x (by simp [Op.operands])) (hav v (by simp [Op.operands])) h
 | slice T x lo hi mx =>
  cases mx with
  | none => rw [ho] at hav; exact write_slice hs hcx.te ho (hav x (by simp [Op.operands])) (fun y hy => hav y (by simp [Op.operands, hy])) (fun y hy => hav y (by simp [Op.operands, hy])) h
  | some m => rw [ho] at h; simp [opw] at h
 | buildSlice T n ps => rw [ho] at hav; exact write_buildSlice hs hcx.te ho (fun p hp => hav p.2 (by simp [Op.operands]; exact ⟨p.1, by simpa using hp⟩)) h
 | makeSlice T l c => rw [ho] at hav; exact write_makeSlice hs hcx.te ho (hav l (by simp [Op.operands])) (hav c (by simp [Op.operands])) h
 | mapUpdate T x k v => rw [ho] at hav; exact write_mapUpdate hs hcx.map ho (hav x (by simp [Op.operands])) (hav k (by simp [Op.operands])) (hav v (by simp [Op.operands])) h
 | lookup T x k b =>
  cases b with
  | true => rw [ho] at hav; exact write_lookup hs hcx.map ho (hav x (by simp [Op.operands])) (hav k (by simp [Op.operands])) h
  | false => rw [ho] at h; simp [opw] at h
 | call c =>
  obtain ⟨callee, args, tys⟩ := c
  cases callee with
  | builtin b =>
   rw [ho] at hav
   have hx : ∀ x ∈ args.toList, CV E (av x) (ρ x) := fun x hx => hav x (by simp [Op.operands, Call.operands]; simpa using hx)
   cases b with
   | append => exact write_append hs hcx.te ho hx h
   | copy => exact write_copy hs hcx.te ho hx h
   | _ => rw [ho] at h; simp [opw] at h
  | _ => rw [ho] at h; simp [opw] at h
 | _ => rw [ho] at h; simp [opw] at h
end
end Go.Gh
