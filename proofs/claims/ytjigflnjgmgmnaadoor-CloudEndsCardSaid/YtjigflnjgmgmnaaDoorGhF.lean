/- The ghost machine: a range over a function is begun. Conditions: none (lemmas alone). -/
import Derived.Test.YtjigflnjgmgmnaaDoorGhE
import Derived.Orders
namespace Go.Gh
theorem m_rangeFunc {P : Program} {F : Frame} {cs : List Frame} {w w1 : World} {k : List Item} {f : Operand} {ps : Array Tmp} {a b : Code} {l : Nat} {mark : List Deferred} {n : FuncId} {args : Array Value} (hm : F.mode = .run) (ht : F.todo = .code (.rangeFunc f ps a b) :: k)
  (h1 : (Instr.enterLoop F.fn F.tmps ps a b F.roundOf).run P w = .ok (l, mark) w1)
  (h2 : (do let d ← resolve F.eval { callee := .value f, args := #[.const (.func (.yield l) #[] #[])], argTypes := #[] } 0; invoke d.target d.args : Sem Next).run P w1 = .ok (.enter n args) w1) :
  Steps P (lone F cs w) (lone (Frame.enter P n args .normal) ({ F with todo := .inRangeFunc l :: k, defers := mark ++ F.defers } :: cs) w1) := by
 have he : ({ F with todo := .inRangeFunc l :: k, defers := mark ++ F.defers } : Frame).eval = F.eval := by funext x; cases x <;> rfl
 exact m_go hm (by simp only [stepG.exec, ht, Sem.runT_eq, h1, GStep.bare_after, stepG.apply, if_true]; rw [he, h2]; rfl)
theorem purgeL_len (id : Nat) : ∀ as : List AV, (purgeL id as).length = as.length
 | [] => rfl
 | a :: as => by simp [purgeL, purgeL_len id as]
theorem bind_obj {B : Base} {E : Env} {id : Nat} {b : Blk} {o : Obj} (hb : ∀ j, ¬ ownB j b) : BindOK B E id b (E.m.w.alloc o) (some E.m.w.heap.size) := by
 have hsame : ∀ k, k < E.m.w.heap.size → (E.m.w.alloc o).heap[k]? = E.m.w.heap[k]? := fun k hk => by
  show (E.m.w.heap.push o)[k]? = _
  rw [Array.getElem?_push, if_neg (by omega)]
 refine ⟨by simp [World.size_alloc], rfl, rfl, rfl, fun k j v hc _ => ?_, fun k x hx => ?_, fun k hk _ => hsame k hk, fun k hk => ?_, fun k j hk hj => absurd hj (hb j)⟩
 ·have := cell_lt hc
  rw [← hc]; exact cell_block (hsame k this) j
 ·have := shape_lt hx
  rw [← hx]; exact shape_block (hsame k this)
 ·cases hk; exact .inl (Nat.le_refl _)
theorem bind_obj2 {B : Base} {E : Env} {id : Nat} {b : Blk} {o0 o : Obj} (hb : ∀ j, ¬ ownB j b) : BindOK B E id b ((E.m.w.alloc o0).alloc o) (some (E.m.w.heap.size + 1)) := by
 have hsame : ∀ k, k < E.m.w.heap.size → ((E.m.w.alloc o0).alloc o).heap[k]? = E.m.w.heap[k]? := fun k hk => by
  show ((E.m.w.heap.push o0).push o)[k]? = _
  rw [Array.getElem?_push, Array.getElem?_push, if_neg (by simp; omega), if_neg (by omega)]
 refine ⟨by simp [World.size_alloc]; omega, rfl, rfl, rfl, fun k j v hc _ => ?_, fun k x hx => ?_, fun k hk _ => hsame k hk, fun k hk => ?_, fun k j hk hj => absurd hj (hb j)⟩
 ·have := cell_lt hc
  rw [← hc]; exact cell_block (hsame k this) j
 ·have := shape_lt hx
  rw [← hx]; exact shape_block (hsame k this)
 ·cases hk; exact .inl (by omega)
section
variable {R : Type} {B : Base} {E : Env} {s : Cf} {F : Frame} {Fs cs0 : List Frame} {k : Cf → Option R} {out : AV → Heap → Option R} {r : R}
theorem yld_cv {id : Nat} {b : Blk} {w' : World} {q : Nat} : CV (E.bind B id b w' (some q)) (.yld id) (.func (.yield q) #[] #[]) := by
 refine CV.of1 ?_ rfl
 unfold CC
 exact ⟨_, rfl, rfl, fun b _ => ⟨q, upd_same, rfl⟩⟩
theorem CVL.single {a : AV} {v : Value} (h : CV E a v) (ha : argA a = a) : CVL E [a] [v] := by
 unfold CVL
 refine ⟨v, [], rfl, ?_, by unfold CVL; rfl⟩
 have := CVL.elem h
 rw [ha] at this
 exact this
theorem run_rangeCall {P : Program} {w : World} {ev : Operand → Value} {f : Operand} {l : Nat} {n : FuncId} {fn : Func} {c : Code} {vs ws : List Value} (hf : ev f = .func (.func n) vs.toArray ws.toArray) (hc : ∀ v, ev (.const v) = v) (hfn : P.funcs[n]? = some fn) (hb : fn.body = some c) (hname : fn.name ≠ "runtime.NumGoroutine") :
  (do let d ← resolve ev { callee := .value f, args := #[.const (.func (.yield l) #[] #[])], argTypes := #[] } 0; invoke d.target d.args : Sem Next).run P w = .ok (.enter n (vs ++ [Value.func (.yield l) #[] #[]] ++ ws).toArray) w := by
 have hargv : vs.toArray ++ #[Value.func (.yield l) #[] #[]] ++ ws.toArray = (vs ++ [Value.func (.yield l) #[] #[]] ++ ws).toArray := by simp
 simp only [resolve, hf, hc, Deferred.ofValue, Sem.run_bind, Sem.run_pure, Result.andThen_ok, invoke, callFunc, run_program, hfn, hb, Option.isNone_some, beq_iff_eq, hname, if_false, Bool.false_eq_true, List.map_toArray, List.map_cons, List.map_nil, hargv]
theorem range_ok {t : List It} {f : Operand} {ps : Array Tmp} {a b : Code} (hcx : CtxOK' B.cx) (hS : Sim B E s F Fs) (ht : s.fr.todo = .code (.rangeFunc f ps a b) :: t) (h : step B.cx s k out = some r) : StepOK B cs0 E F Fs k out r := by
 simp only [step, ht] at h
 obtain ⟨j, T, e, hj, hT⟩ := All2.cons_inv (by rw [← ht]; exact hS.fr.todo)
 cases hj
 have hm := hS.fr.mode
 have hround := hS.fr.round
 split at h
 ·rename_i n fs cs hav
  have hf := eval_ok hS f
  rw [hav] at hf
  rw [withLoop_eq] at h
  generalize loopSite s b = site at h
  split at h
  ·rename_i fn hfn
   have key : ∀ (c : Code) (w1 : World) (q kd : Nat) (mark : List Deferred), fn.body = some c →
     (Instr.enterLoop F.fn F.tmps ps a b F.roundOf).run B.cx.P E.m.w = .ok (q, mark) w1 → BindOK B E site (.loop false none false s.fr.fn s.fr.n (purgeR site s.fr.regs) ps.toList a b 0) w1 (some q) → E.m.w.heap.size ≤ q →
     w1.heap[q]? = some (.loop { state := .ready, pending := none, fn := F.fn, tmps := F.tmps, params := ps, assign := a, body := b, defers := kd }) →
     (∀ d ∈ mark, ∃ k, d = { target := .collected k, args := #[] } ∧ B.w0.heap.size ≤ k ∧ E.m.w.heap.size ≤ k ∧ w1.heap[k]? = some (Obj.deferred (some []))) → mark.Nodup →
     cond (!B.cx.inl n || (B.cx.con n).isSome || usesS site s || Nat.blt fn.ntmps (fs.length + 1 + cs.length)) none (
      k { fr := { fn := n, n := fn.ntmps, regs := (List.range (fs.length + 1 + cs.length)).zip (purgeL site fs ++ [.yld site] ++ purgeL site cs), todo := [.code c], round := none, defers := [] },
          callers := { (purgeS site s).fr with todo := .inRangeFunc site :: t } :: (purgeS site s).callers,
          heap := (site, .loop false none false s.fr.fn s.fr.n (purgeS site s).fr.regs ps.toList a b 0) :: (purgeS site s).heap, base := (purgeS site s).base }) = some r → StepOK B cs0 E F Fs k out r := by
    intro c w1 q kd mark hb henter hB hq hobj hmark hmnd h
    cases hcond : (!B.cx.inl n || (B.cx.con n).isSome || usesS site s || Nat.blt fn.ntmps (fs.length + 1 + cs.length)) with
    | true => rw [hcond] at h; cases h
    | false =>
     rw [hcond, cond_false] at h
     simp only [Bool.or_eq_false_iff, Bool.not_eq_false'] at hcond
     obtain ⟨⟨⟨hinl, _⟩, hu1⟩, hlen⟩ := hcond
     have hlen : fs.length + 1 + cs.length ≤ fn.ntmps := by
      rcases Nat.lt_or_ge fn.ntmps (fs.length + 1 + cs.length) with h1 | h1
      ·rw [blt_t h1] at hlen; cases hlen
      ·exact h1
     have hu1' := hu1
     simp only [usesS, Bool.or_eq_false_iff] at hu1'
     have hname := hcx.inl _ _ hinl hfn
     have hN2 : NoLoop E site := noLoop_of hS.heap hu1'.1.2
     generalize hL : Blk.loop false none false s.fr.fn s.fr.n (purgeR site s.fr.regs) ps.toList a b 0 = L at *
     have hfr2 := hS.fr.bind hS.ok hB hu1'.1.1.1
     have hcs2 := callers_purge hS.ok hB hu1'.1.1.2 hS.callers
     have hf2 := hf.bind hS.ok hB
     have hb2 : BOK B (E.bind B site L w1 (some q)) site L := by
      rw [← hL]
      refine ⟨q, kd, .ready, F.tmps, upd_same, Nat.le_trans hS.ok.ext.size hq, trivial, by simp [loopState], by rw [hL]; exact hfr2.regs, ?_⟩
      rw [show (E.bind B site _ w1 (some q)).m.w = w1 from rfl, hobj, hS.fr.fn]
     have hs2 := hS.ok.bind hB hN2 (usesS_low hS.base hu1) hb2
     generalize hE2 : E.bind B site L w1 (some q) = E2 at *
     have hyl : CV E2 (.yld site) (.func (.yield q) #[] #[]) := by rw [← hE2]; exact yld_cv
     have hρ3 : E2.ρ site = some q := by rw [← hE2]; exact upd_same
     simp only [purgeA] at hf2
     have hf3 := hf2.one rfl (by simp [skA])
     unfold CC at hf3
     obtain ⟨vs, ws, ev, hvs, hws⟩ := hf3
     have hv := (List.cons.inj ev).1
     have hargs := (hvs.append (CVL.single hyl rfl)).append hws
     have hal : (purgeL site fs ++ [AV.yld site] ++ purgeL site cs).length = fs.length + 1 + cs.length := by simp only [List.length_append, purgeL_len, List.length_cons, List.length_nil, Nat.zero_add]
     have hent := enter_ok hfn hb hargs (by rw [hal]; exact hlen)
     rw [hal] at hent
     have hcall := run_rangeCall (P := B.cx.P) (w := E2.m.w) (ev := F.eval) (f := f) (l := q) hv (fun _ => rfl) hfn hb hname
     have hw2 : E2.m.w = w1 := by rw [← hE2]; rfl
     have hst := m_rangeFunc (cs := Fs ++ cs0) hm e (w1 := E2.m.w) (by rw [henter, hw2]) hcall
     have hnd := hS.nd
     unfold Nd at hnd
     rw [List.flatMap_cons] at hnd
     have hfresh : ∀ d ∈ mark, d ∉ F.defers ++ Fs.flatMap (·.defers) := by
      intro d hd hc
      obtain ⟨k1, e1, _, h2, _⟩ := hmark d hd
      have : ∃ G ∈ F :: Fs, d ∈ G.defers := by
       rcases List.mem_append.1 hc with hc | hc
       ·exact ⟨F, by simp, hc⟩
       ·obtain ⟨G, hG, hc⟩ := List.mem_flatMap.1 hc
        exact ⟨G, by simp [hG], hc⟩
      obtain ⟨G, hG, hcg⟩ := this
      have hin : ∃ k3, d = { target := .collected k3, args := #[] } ∧ E.m.w.heap[k3]? = some (Obj.deferred (some [])) := by
       rcases List.mem_cons.1 hG with e3 | hG
       ·subst e3; exact hS.fr.defers.2 d hcg
       ·obtain ⟨g, hg, hfg⟩ := hS.callers.memR G hG
        exact hfg.defers.2 d hcg
      obtain ⟨k3, e3, h4⟩ := hin
      rw [e1] at e3
      simp only [Deferred.mk.injEq, Target.collected.injEq, and_true] at e3
      subst e3
      have := lt_of_some h4
      omega
     refine .inl ⟨_, E2, _, _ :: Fs, h, ⟨?_, hs2, hent, .cons ?_ hcs2, ?_, hS.base⟩, hst, ?_⟩
     ·rw [← hE2]
      show _ :: _ = _ :: purgeH site E.H
      rw [← hS.heap, ← hL]
      rfl
     ·refine ⟨hfr2.fn, hfr2.regs, .cons (.inRangeFunc _ _ hρ3) ?_, ?_, ?_, hfr2.mode, hfr2.kind⟩
      ·have := hfr2.todo
       rw [show (purgeF site s.fr).todo = s.fr.todo from rfl, ht, e] at this
       cases this with
       | cons p q => exact q
      ·exact hfr2.round
      ·refine ⟨hfr2.defers.1, fun d hd => ?_⟩
       rcases List.mem_append.1 hd with hd | hd
       ·obtain ⟨k1, e1, _, _, h3⟩ := hmark d hd
        exact ⟨k1, e1, by rw [hw2]; exact h3⟩
       ·exact hfr2.defers.2 d hd
     ·refine Nd.push enter_defers ?_
      unfold Nd
      rw [List.flatMap_cons, List.append_assoc]
      refine ⟨List.nodup_append.2 ⟨hmnd, hnd.1, fun x hx y hy e => by subst e; exact hfresh x hx hy⟩, fun d hd => ?_⟩
      rcases List.mem_append.1 hd with hd | hd
      ·obtain ⟨k1, e1, _, h2, _⟩ := hmark d hd
       exact ⟨k1, e1, Nat.le_trans hS.ok.since.grow h2⟩
      ·exact hnd.2 d hd
     ·cases Fs <;> rfl
   split at h
   ·-- an outermost loop
    rename_i c hb hr
    rw [hr] at hround
    simp only at hround
    refine key c ((E.m.w.alloc (.deferred (some []))).alloc _) (E.m.w.heap.size + 1) E.m.w.heap.size _ hb (by rw [hround]; exact run_enterLoop_outer (P := B.cx.P) (w := E.m.w) F.fn F.tmps ps a b) (bind_obj2 (fun j hj => hj)) (by omega) ?_ ?_ (by simp) h
    ·rw [show E.m.w.heap.size + 1 = (E.m.w.alloc (.deferred (some []))).heap.size from by simp [World.size_alloc]]
     exact World.alloc_heap_new _ _
    ·intro d hd
     simp only [List.mem_singleton] at hd
     subst hd
     refine ⟨E.m.w.heap.size, rfl, hS.ok.ext.size, Nat.le_refl _, ?_⟩
     show ((E.m.w.heap.push _).push _)[E.m.w.heap.size]? = _
     rw [Array.getElem?_push, if_neg (by simp)]
     simp
   ·-- a loop in a round
    rename_i c g hb hr
    split at h
    ·rename_i dn jp bz fn' nt rg ps' x y d hl
     rw [hr] at hround
     obtain ⟨kk, hk, hro⟩ := hround
     rw [hS.heap] at hl
     obtain ⟨k', kd, st, tmps, p1, p2, p3, p4, p5, p6⟩ := hS.ok.blk _ _ hl
     rw [hk] at p1; cases p1
     refine key c (E.m.w.alloc (.loop { state := .ready, pending := none, fn := F.fn, tmps := F.tmps, params := ps, assign := a, body := b, defers := kd })) E.m.w.heap.size kd [] hb ?_ (bind_obj (fun j hj => hj)) (Nat.le_refl _) (World.alloc_heap_new _ _) (fun _ h => absurd h List.not_mem_nil) .nil h
     unfold Instr.enterLoop
     simp only [hro, Sem.run_bind, run_getLoop p6, run_newObj_alloc, Result.andThen, Sem.run_pure]
    ·cases h
   ·cases h
  ·cases h
 ·cases h
end
end Go.Gh
/- The ghost machine: what a free operation comes to is settled by its operands. Conditions: none (lemmas alone). -/
namespace Go.Gh
section
variable {R : Type}
theorem splitN_det {i : Nat} {f : Nat → Option R} {r : R} : ∀ {n j : Nat}, splitN i f j n = some r → f i = some r ∧ ∀ (R' : Type) (f' : Nat → Option R'), splitN i f' j n = f' i
 | 0, j, h => by simp [splitN] at h
 | n + 1, j, h => by
  simp only [splitN] at h
  by_cases e : i = j
  ·subst e
   simp only [decide_true, cond_true] at h
   exact ⟨h, fun R' f' => by simp [splitN]⟩
  ·rw [decide_eq_false e, cond_false] at h
   obtain ⟨h1, h2⟩ := splitN_det h
   exact ⟨h1, fun R' f' => by simp only [splitN]; rw [decide_eq_false e, cond_false, h2]⟩
theorem cond_det {p : Prop} [Decidable p] {x : Option R} {r : R} (h : cond (decide p) x none = some r) : p ∧ x = some r := by
 by_cases e : p
 ·rw [decide_eq_true e] at h; exact ⟨e, h⟩
 ·rw [decide_eq_false e] at h; cases h
theorem getT_det : ∀ (p : List Nat) (t : Ty) (x : den t) {g : AV → Option R} {r : R}, getT p t x g = some r → ∃ a, g a = some r ∧ ∀ (R' : Type) (g' : AV → Option R'), getT p t x g' = g' a
 | [], t, x, g, r, h => by simp only [getT] at h; exact ⟨_, h, fun R' g' => by simp only [getT]⟩
 | k :: p, .struct fs, x, g, r, h => by
  simp only [getT] at h
  split at h
  ·rename_i t y hf
   obtain ⟨a, h1, h2⟩ := getT_det p t y h
   exact ⟨a, h1, fun R' g' => by simp only [getT, hf, h2]⟩
  ·cases h
 | i :: p, .arr n t, xs, g, r, h => by
  simp only [getT] at h
  obtain ⟨e, h⟩ := cond_det h
  obtain ⟨a, h1, h2⟩ := getT_det p t _ h
  exact ⟨a, h1, fun R' g' => by simp only [getT]; rw [decide_eq_true e, cond_true, h2]⟩
 | _ :: _, .int _, _, _, _, h | _ :: _, .bool, _, _, _, h | _ :: _, .str, _, _, _, h | _ :: _, .slice _, _, _, _, h | _ :: _, .hnd _ _, _, _, _, h => by simp [getT] at h
theorem getA_det : ∀ (p : List Nat) (a : AV) {g : AV → Option R} {r : R}, getA p a g = some r → ∃ b, g b = some r ∧ ∀ (R' : Type) (g' : AV → Option R'), getA p a g' = g' b
 | [], a, g, r, h => by simp only [getA] at h; exact ⟨_, h, fun R' g' => by simp only [getA]⟩
 | k :: p, .dat t x, g, r, h => by
  simp only [getA] at h
  obtain ⟨a, h1, h2⟩ := getT_det _ _ _ h
  exact ⟨a, h1, fun R' g' => by simp only [getA, h2]⟩
 | k :: p, .agg fs, g, r, h => by
  simp only [getA] at h
  split at h
  ·rename_i a hf
   obtain ⟨b, h1, h2⟩ := getA_det p a h
   exact ⟨b, h1, fun R' g' => by simp only [getA, hf, h2]⟩
  ·cases h
 | i :: p, .arrL fs, g, r, h => by
  simp only [getA] at h
  obtain ⟨h1, h2⟩ := splitN_det h
  split at h1
  ·rename_i a hf
   obtain ⟨b, h3, h4⟩ := getA_det p a h1
   exact ⟨b, h3, fun R' g' => by simp only [getA]; rw [h2]; simp only [hf, h4]⟩
  ·cases h1
 | _ :: _, .ptr _ _, _, _, h | _ :: _, .cptr _ _, _, _, h | _ :: _, .hp _ _ _, _, _, h | _ :: _, .full _ _, _, _, h | _ :: _, .hmp _ _ _, _, _, h | _ :: _, .hm _ _ _, _, _, h | _ :: _, .row _, _, _, h | _ :: _, .sub _ _ _, _, _, h | _ :: _, .nilsl, _, _, h | _ :: _, .nilp, _, _, h | _ :: _, .nilf, _, _, h | _ :: _, .nilm, _, _, h | _ :: _, .fn _ _ _, _, _, h | _ :: _, .yld _, _, _, h | _ :: _, .tup _, _, _, h | _ :: _, .any, _, _, h | _ :: _, .top, _, _, h => by simp [getA] at h
theorem setFs_det : ∀ (fs : List Ty) (x : denL fs) (k : Nat) {m : ∀ {R' : Type}, (t : Ty) → den t → (den t → Option R') → Option R'}
  (_ : ∀ {t : Ty} {z : den t} {g : den t → Option R} {r : R}, m t z g = some r → ∃ y, g y = some r ∧ ∀ (R' : Type) (g' : den t → Option R'), m t z g' = g' y)
  {g : denL fs → Option R} {r : R}, setFs fs x k m g = some r → ∃ y, g y = some r ∧ ∀ (R' : Type) (g' : denL fs → Option R'), setFs fs x k m g' = g' y
 | [], _, _, _, _, _, _, h => by simp [setFs] at h
 | t :: ts, x, 0, m, hm, g, r, h => by
  simp only [setFs] at h
  obtain ⟨y, h1, h2⟩ := hm h
  exact ⟨_, h1, fun R' g' => by simp only [setFs, h2]⟩
 | t :: ts, x, k + 1, m, hm, g, r, h => by
  simp only [setFs] at h
  obtain ⟨y, h1, h2⟩ := setFs_det ts x.2 k hm h
  exact ⟨_, h1, fun R' g' => by simp only [setFs, h2]⟩
theorem setT_det : ∀ (p : List Nat) (u : Ty) (y : den u) (t : Ty) (x : den t) {g : den t → Option R} {r : R}, setT p u y t x g = some r → ∃ z, g z = some r ∧ ∀ (R' : Type) (g' : den t → Option R'), setT p u y t x g' = g' z
 | [], u, y, t, x, g, r, h => by
  simp only [setT] at h
  split at h
  ·rename_i z hz
   exact ⟨z, h, fun R' g' => by simp only [setT, hz]⟩
  ·cases h
 | k :: p, u, y, .struct fs, x, g, r, h => by
  simp only [setT] at h
  obtain ⟨z, h1, h2⟩ := setFs_det (m := fun t z g' => setT p u y t z g') fs x k (fun h => setT_det p u y _ _ h) h
  exact ⟨z, h1, fun R' g' => by simp only [setT]; exact h2 R' g'⟩
 | i :: p, u, y, .arr n t, xs, g, r, h => by
  simp only [setT] at h
  obtain ⟨e, h⟩ := cond_det h
  obtain ⟨z, h1, h2⟩ := setT_det p u y t _ h
  exact ⟨_, h1, fun R' g' => by simp only [setT]; rw [decide_eq_true e, cond_true, h2]⟩
 | _ :: _, _, _, .int _, _, _, _, h | _ :: _, _, _, .bool, _, _, _, h | _ :: _, _, _, .str, _, _, _, h | _ :: _, _, _, .slice _, _, _, _, h | _ :: _, _, _, .hnd _ _, _, _, _, h => by simp [setT] at h
theorem setA_det {b : AV} : ∀ (p : List Nat) {a : AV} {g : AV → Option R} {r : R}, setA p b a g = some r → ∃ z, g z = some r ∧ (∀ (R' : Type) (g' : AV → Option R'), setA p b a g' = g' z) ∧ skA z = skA a := by
 intro p
 induction p with
 | nil =>
  intro a g r h
  simp only [setA] at h
  cases hs : eqSk (skA b) (skA a) with
  | false => rw [hs] at h; cases h
  | true =>
   rw [hs] at h
   exact ⟨b, h, fun R' g' => by simp only [setA, hs, cond_true], eqSk_eq hs⟩
 | cons k p ih =>
  intro a g r h
  cases a with
  | dat t x =>
   by_cases hdb : ∃ u y, b = .dat u y
   ·obtain ⟨u, y, rfl⟩ := hdb
    simp only [setA] at h
    obtain ⟨z, h1, h2⟩ := setT_det _ _ _ _ _ h
    exact ⟨_, h1, fun R' g' => by simp only [setA]; rw [h2], rfl⟩
   ·cases t with
    | struct fs =>
     have h' : ∃ a, (fieldsT fs x)[k]? = some a ∧ setA p b a (fun z => g (.agg ((fieldsT fs x).set k z))) = some r := by
      cases b with
      | dat u y => exact absurd ⟨u, y, rfl⟩ hdb
      | _ =>
       simp only [setA] at h
       split at h
       ·exact ⟨_, by assumption, h⟩
       ·cases h
     obtain ⟨a, ha, h'⟩ := h'
     obtain ⟨z, h1, h2, h3⟩ := ih h'
     refine ⟨_, h1, fun R' g' => ?_, by simp only [skA, skAL_set ha h3, fieldsT_sk, skT]⟩
     cases b with
     | dat u y => exact absurd ⟨u, y, rfl⟩ hdb
     | _ => simp only [setA, ha]; rw [h2]
    | _ => cases b <;> first | exact absurd ⟨_, _, rfl⟩ hdb | (simp [setA] at h)
  | agg fs =>
   have h' : ∃ a, fs[k]? = some a ∧ setA p b a (fun z => g (.agg (fs.set k z))) = some r := by
    cases b <;> (simp only [setA] at h; split at h; (first | exact ⟨_, by assumption, h⟩); cases h)
   obtain ⟨a, ha, h'⟩ := h'
   obtain ⟨z, h1, h2, h3⟩ := ih h'
   refine ⟨_, h1, fun R' g' => ?_, by simp only [skA, skAL_set ha h3]⟩
   cases b <;> (simp only [setA, ha]; rw [h2])
  | arrL fs =>
   have h' : splitN k (fun j => match fs[j]? with | some a => setA p b a (fun z => g (.arrL (fs.set j z))) | none => none) 0 fs.length = some r := by
    cases b <;> (simp only [setA] at h; exact h)
   obtain ⟨h1, h2⟩ := splitN_det h'
   split at h1
   ·rename_i a ha
    obtain ⟨z, h3, h4, h5⟩ := ih h1
    refine ⟨_, h3, fun R' g' => ?_, by simp only [skA, skAL_set ha h5]⟩
    have : setA (k :: p) b (.arrL fs) g' = splitN k (fun j => match fs[j]? with | some a => setA p b a (fun z => g' (.arrL (fs.set j z))) | none => none) 0 fs.length := by cases b <;> rfl
    rw [this, h2]
    simp only [ha]
    rw [h4]
   ·cases h1
  | _ => cases b <;> simp [setA] at h
theorem buildAll_det {pl : Nat → Option (Nat × Nat)} : ∀ (ps : List (Nat × AV)) {z : AV} {g : AV → Option R} {r : R}, buildAll pl ps z g = some r → ∃ y, g y = some r ∧ ∀ (R' : Type) (g' : AV → Option R'), buildAll pl ps z g' = g' y
 | [], z, g, r, h => by simp only [buildAll] at h; exact ⟨z, h, fun R' g' => by simp only [buildAll]⟩
 | (i, a) :: ps, z, g, r, h => by
  simp only [buildAll] at h
  split at h
  ·rename_i o s hp
   split at h
   ·rename_i hc
    obtain ⟨z', h1, h2, _⟩ := setA_det _ h
    obtain ⟨y, h3, h4⟩ := buildAll_det ps h1
    refine ⟨y, h3, fun R' g' => ?_⟩
    simp only [buildAll, hp]
    rw [if_pos hc, h2, h4]
   ·cases h
  ·cases h
def rowB : Blk → Option (Ty × Nat)
 | .row t xs _ => some (t, List.length xs)
 | _ => none
structure Like (b b' : Blk) : Prop where
 sk : skB b' = skB b
 rows : rowB b' = rowB b
theorem Like.refl (b : Blk) : Like b b := ⟨rfl, rfl⟩
theorem Like.symm {b b' : Blk} (h : Like b b') : Like b' b := ⟨h.sk.symm, h.rows.symm⟩
theorem Like.trans {a b c : Blk} (h : Like a b) (h' : Like b c) : Like a c := ⟨h'.sk.trans h.sk, h'.rows.trans h.rows⟩
theorem Like.row {b b' : Blk} (h : Like b b') (t : Ty) (xs : List (den t)) (l : Bool) (e : b = .row t xs l) : ∃ xs' l', b' = .row t xs' l' ∧ List.length xs' = List.length xs := by
 subst e
 have h1 := h.rows
 cases b' with
 | row t' xs' l' =>
  simp only [rowB, Option.some.injEq, Prod.mk.injEq] at h1
  obtain ⟨rfl, h2⟩ := h1
  exact ⟨xs', l', rfl, h2⟩
 | _ => simp [rowB] at h1
abbrev Same (a : AV) (H H' : Heap) : Prop := ∀ id b, men id a = true → hlook H id = some b → hlook H' id = some b
abbrev SameL (as : List AV) (H H' : Heap) : Prop := ∀ id b, menL id as = true → hlook H id = some b → hlook H' id = some b
mutual
theorem toDat_ext {H H' : Heap} : (t : Ty) → (a : AV) → ∀ {x : den t}, Same a H H' → toDat H t a = some x → toDat H' t a = some x
 | t, .dat u y, x, he, h => by simp only [toDat] at h ⊢; exact h
 | .slice t, .nilsl, x, he, h => by simp only [toDat] at h ⊢; exact h
 | .hnd i t, .nilp, x, he, h => by simp only [toDat] at h ⊢; exact h
 | .hnd i t, .hp j u y, x, he, h => by simp only [toDat] at h ⊢; exact h
 | .slice t, .row id, x, he, h => by
  simp only [toDat] at h ⊢
  split at h
  ·rename_i u xs hr; simp only [he _ _ (by simp [men]) hr]; exact h
  ·cases h
 | .slice t, .sub id lo len, x, he, h => by
  simp only [toDat] at h ⊢
  split at h
  ·rename_i u xs hr; simp only [he _ _ (by simp [men]) hr]; exact h
  ·cases h
 | .struct fs, .agg as, x, he, h => by simp only [toDat] at h ⊢; exact toDatL_ext fs as (fun id b hm => he id b (by simpa [men] using hm)) h
 | .arr n t, .arrL as, x, he, h => by
  simp only [toDat] at h ⊢
  split at h
  ·rename_i hn; rw [if_pos hn]; exact toDatN_ext t as (fun id b hm => he id b (by simpa [men] using hm)) h
  ·cases h
 | .int _, .agg _, _, he, h | .int _, .arrL _, _, he, h | .int _, .ptr _ _, _, he, h | .int _, .cptr _ _, _, he, h | .int _, .hp _ _ _, _, he, h | .int _, .full _ _, _, he, h | .int _, .hmp _ _ _, _, he, h | .int _, .hm _ _ _, _, he, h | .int _, .row _, _, he, h | .int _, .sub _ _ _, _, he, h | .int _, .nilsl, _, he, h | .int _, .nilp, _, he, h | .int _, .nilf, _, he, h | .int _, .nilm, _, he, h | .int _, .fn _ _ _, _, he, h | .int _, .yld _, _, he, h | .int _, .tup _, _, he, h | .int _, .any, _, he, h | .int _, .top, _, he, h => by simp [toDat] at h
 | .bool, a, x, he, h => by cases a <;> first | (simp [toDat] at h; done) | (simp only [toDat] at h ⊢; exact h)
 | .str, a, x, he, h => by cases a <;> first | (simp [toDat] at h; done) | (simp only [toDat] at h ⊢; exact h)
 | .struct _, .arrL _, _, he, h | .struct _, .ptr _ _, _, he, h | .struct _, .cptr _ _, _, he, h | .struct _, .hp _ _ _, _, he, h | .struct _, .full _ _, _, he, h | .struct _, .hmp _ _ _, _, he, h | .struct _, .hm _ _ _, _, he, h | .struct _, .row _, _, he, h | .struct _, .sub _ _ _, _, he, h | .struct _, .nilsl, _, he, h | .struct _, .nilp, _, he, h | .struct _, .nilf, _, he, h | .struct _, .nilm, _, he, h | .struct _, .fn _ _ _, _, he, h | .struct _, .yld _, _, he, h | .struct _, .tup _, _, he, h | .struct _, .any, _, he, h | .struct _, .top, _, he, h => by simp [toDat] at h
 | .arr _ _, .agg _, _, he, h | .arr _ _, .ptr _ _, _, he, h | .arr _ _, .cptr _ _, _, he, h | .arr _ _, .hp _ _ _, _, he, h | .arr _ _, .full _ _, _, he, h | .arr _ _, .hmp _ _ _, _, he, h | .arr _ _, .hm _ _ _, _, he, h | .arr _ _, .row _, _, he, h | .arr _ _, .sub _ _ _, _, he, h | .arr _ _, .nilsl, _, he, h | .arr _ _, .nilp, _, he, h | .arr _ _, .nilf, _, he, h | .arr _ _, .nilm, _, he, h | .arr _ _, .fn _ _ _, _, he, h | .arr _ _, .yld _, _, he, h | .arr _ _, .tup _, _, he, h | .arr _ _, .any, _, he, h | .arr _ _, .top, _, he, h => by simp [toDat] at h
 | .slice _, .agg _, _, he, h | .slice _, .arrL _, _, he, h | .slice _, .ptr _ _, _, he, h | .slice _, .cptr _ _, _, he, h | .slice _, .hp _ _ _, _, he, h | .slice _, .full _ _, _, he, h | .slice _, .hmp _ _ _, _, he, h | .slice _, .hm _ _ _, _, he, h | .slice _, .nilp, _, he, h | .slice _, .nilf, _, he, h | .slice _, .nilm, _, he, h | .slice _, .fn _ _ _, _, he, h | .slice _, .yld _, _, he, h | .slice _, .tup _, _, he, h | .slice _, .any, _, he, h | .slice _, .top, _, he, h => by simp [toDat] at h
 | .hnd _ _, .agg _, _, he, h | .hnd _ _, .arrL _, _, he, h | .hnd _ _, .ptr _ _, _, he, h | .hnd _ _, .cptr _ _, _, he, h | .hnd _ _, .full _ _, _, he, h | .hnd _ _, .hmp _ _ _, _, he, h | .hnd _ _, .hm _ _ _, _, he, h | .hnd _ _, .row _, _, he, h | .hnd _ _, .sub _ _ _, _, he, h | .hnd _ _, .nilsl, _, he, h | .hnd _ _, .nilf, _, he, h | .hnd _ _, .nilm, _, he, h | .hnd _ _, .fn _ _ _, _, he, h | .hnd _ _, .yld _, _, he, h | .hnd _ _, .tup _, _, he, h | .hnd _ _, .any, _, he, h | .hnd _ _, .top, _, he, h => by simp [toDat] at h
theorem toDatL_ext {H H' : Heap} : (ts : List Ty) → (as : List AV) → ∀ {x : denL ts}, SameL as H H' → toDatL H ts as = some x → toDatL H' ts as = some x
 | [], [], x, he, h => rfl
 | t :: ts, a :: as, x, he, h => by
  simp only [toDatL] at h ⊢
  split at h
  ·rename_i x1 x2 h1 h2
   simp only [toDat_ext t a (fun id b hm => he id b (by simp [menL, hm])) h1, toDatL_ext ts as (fun id b hm => he id b (by simp [menL, hm])) h2]; exact h
  ·cases h
 | [], _ :: _, _, he, h | _ :: _, [], _, he, h => by simp [toDatL] at h
theorem toDatN_ext {H H' : Heap} : (t : Ty) → (as : List AV) → ∀ {x : List (den t)}, SameL as H H' → toDatN H t as = some x → toDatN H' t as = some x
 | t, [], x, he, h => by simp only [toDatN] at h ⊢; exact h
 | t, a :: as, x, he, h => by
  simp only [toDatN] at h ⊢
  split at h
  ·rename_i x1 x2 h1 h2
   simp only [toDat_ext t a (fun id b hm => he id b (by simp [menL, hm])) h1, toDatN_ext t as (fun id b hm => he id b (by simp [menL, hm])) h2]; exact h
  ·cases h
end
theorem ptDat_ext {H H' : Heap} {t : Ty} {a : AV} {x : den t} (he : Same a H H') (h : ptDat H t a = some x) : ptDat H' t a = some x := by
 unfold ptDat at h ⊢
 split at h
 ·split at h
  ·rename_i hl
   simp only [he _ _ (by simp [men]) hl]; exact h
  ·cases h
 ·exact h
 ·cases h
theorem arrDat_ext {H H' : Heap} {t : Ty} {a : AV} {x : den t} (he : Same a H H') (h : arrDat H t a = some x) : arrDat H' t a = some x := by
 unfold arrDat at h ⊢
 split at h
 ·split at h
  ·rename_i hl
   simp only [he _ _ (by simp [men]) hl]; exact h
  ·cases h
 ·cases h
theorem toDatU_ext {H H' : Heap} {t : Ty} {a : AV} {x : den t} (he : Same a H H') (h : toDatU H t a = some x) : toDatU H' t a = some x := by
 unfold toDatU at h ⊢
 cases h1 : arrDat H t a with
 | some y =>
  rw [h1] at h
  rw [arrDat_ext he h1]
  exact h
 | none =>
  rw [h1] at h
  have h2 := toDat_ext t a he h
  cases h3 : arrDat H' t a with
  | none => exact h2
  | some y =>
   unfold arrDat at h3
   split at h3
   ·rename_i id lo len
    split at h3
    ·rename_i hl
     cases t <;> simp only [toDat] at h2 <;> try cases h2
     rw [hl] at h2
     cases h2
    ·cases h3
   ·cases h3
theorem toDatR_ext {H H' : Heap} : (rs : List Bool) → (ts : List Ty) → (as : List AV) → ∀ {x : denL ts}, SameL as H H' → toDatR H rs ts as = some x → toDatR H' rs ts as = some x
 | [], ts, as, x, he, h => by simp only [toDatR] at h ⊢; exact toDatL_ext ts as he h
 | _ :: _, [], [], x, _, h => by simp only [toDatR]
 | b :: rs, t :: ts, a :: as, x, he, h => by
  simp only [toDatR] at h ⊢
  split at h
  ·rename_i x1 x2 h1 h2
   have h2' := toDatR_ext (H' := H') rs ts as (fun id b hm => he id b (by simp [menL, hm])) h2
   have hs : Same a H H' := fun id b hm => he id b (by simp [menL, hm])
   have h1' : cond b (ptDat H' t a) (toDatU H' t a) = some x1 := by
    cases b with
    | true => exact ptDat_ext hs h1
    | false => exact toDatU_ext hs h1
   simp only [h1', h2']; exact h
  ·cases h
 | _ :: _, [], _ :: _, _, _, h | _ :: _, _ :: _, [], _, _, h => by simp [toDatR] at h
theorem datsOf_ext {H H' : Heap} {t : Ty} : ∀ (ps : List (Nat × AV)) {xs ys : List (den t)}, (∀ p ∈ ps, Same p.2 H H') → datsOf H t ps xs = some ys → datsOf H' t ps xs = some ys
 | [], xs, ys, _, h => h
 | (i, a) :: ps, xs, ys, he, h => by
  simp only [datsOf] at h ⊢
  split at h
  ·rename_i x hx; simp only [toDat_ext _ _ (he (i, a) (by simp)) hx]; exact datsOf_ext ps (fun p hp => he p (by simp [hp])) h
  ·cases h
theorem lenA_ext {H H' : Heap} {a : AV} {n : Int} (he : Same a H H') (h : lenA H a = some n) : lenA H' a = some n := by
 unfold lenA at h ⊢
 split at h
 ·exact h
 ·exact h
 ·split at h
  ·rename_i hl; simp only [he _ _ (by simp [men]) hl]; exact h
  ·cases h
 ·split at h
  ·rename_i hl; simp only [he _ _ (by simp [men]) hl]; exact h
  ·rename_i hl; simp only [he _ _ (by simp [men]) hl]; exact h
  ·cases h
 ·cases h
theorem intOp_det {op : BinOp} {k : IntKind} {x y : Int} {g : AV → Option R} {r : R} (h : intOp op k x y g = some r) : ∃ a, g a = some r ∧ ∀ (R' : Type) (g' : AV → Option R'), intOp op k x y g' = g' a := by
 cases op <;> simp only [intOp] at h ⊢ <;> first
  | exact ⟨_, h, fun _ _ => rfl⟩
  | (cases h; done)
  | (by_cases e : y = 0
     ·rw [decide_eq_true e] at h; cases h
     ·rw [decide_eq_false e] at h ⊢; exact ⟨_, h, fun _ _ => rfl⟩)
theorem shOp_det {op : BinOp} {k : IntKind} {x y : Int} {g : AV → Option R} {r : R} (h : shOp op k x y g = some r) : ∃ a, g a = some r ∧ ∀ (R' : Type) (g' : AV → Option R'), shOp op k x y g' = g' a := by
 unfold shOp at h ⊢
 by_cases e : y < 0
 ·rw [decide_eq_true e] at h; cases h
 ·rw [decide_eq_false e] at h ⊢
  cases op <;> first | exact ⟨_, h, fun _ _ => rfl⟩ | (cases h; done)
theorem eqTy_det {cx : Ctx} {H : Heap} {op : BinOp} {T : TypeId} {a b : AV} {g : AV → Option R} {r : R} (h : eqTy cx H op T a b g = some r) : ∃ c, g c = some r ∧ ∀ (H' : Heap) (R' : Type) (g' : AV → Option R'), Same a H H' → Same b H H' → eqTy cx H' op T a b g' = g' c := by
 unfold eqTy at h
 split at h
 ·rename_i t zz hT
  split at h
  ·rename_i x y hx hy
   have key : ∃ c, g c = some r ∧ ∀ (R' : Type) (g' : AV → Option R'), eqOp op (eqD t x y) g' = g' c := by
    cases op <;> first | exact ⟨_, h, fun _ _ => rfl⟩ | (cases h; done)
   obtain ⟨c, h1, h2⟩ := key
   refine ⟨c, h1, fun H' R' g' ha hb => ?_⟩
   unfold eqTy
   simp only [hT, toDat_ext _ _ ha hx, toDat_ext _ _ hb hy, h2]
  ·cases h
 ·cases h
theorem binA_det {cx : Ctx} {H : Heap} {op : BinOp} {T : TypeId} {a b : AV} {g : AV → Option R} {r : R} (h : binA cx H op T a b g = some r) : ∃ c, g c = some r ∧ ∀ (H' : Heap) (R' : Type) (g' : AV → Option R'), Same a H H' → Same b H H' → binA cx H' op T a b g' = g' c := by
 cases op <;> simp only [binA] at h ⊢ <;> split at h <;> first
  | (cases h; done)
  | (obtain ⟨c, h1, h2⟩ := shOp_det h; exact ⟨c, h1, fun _ R' g' _ _ => h2 R' g'⟩)
  | (split at h
     ·rename_i e
      obtain ⟨c, h1, h2⟩ := intOp_det h
      exact ⟨c, h1, fun _ R' g' _ _ => by simp only [if_pos e]; exact h2 R' g'⟩
     ·cases h)
  | (rename_i hn
     obtain ⟨c, h1, h2⟩ := eqTy_det h
     exact ⟨c, h1, fun H' R' g' ha hb => h2 H' R' g' ha hb⟩)
end
end Go.Gh
/- The ghost machine: what a free operation comes to is settled by its operands (2). Conditions: none (lemmas alone). -/
namespace Go.Gh
section
variable {R : Type} {cx : Ctx} {H : Heap} {av av' : Operand → AV} {site : Nat} {op : Op}
def Sees (op : Op) (av : Operand → AV) (H H' : Heap) : Prop := ∀ id b, (∃ x ∈ op.operands, men id (av x) = true) → hlook H id = some b → ∃ b', hlook H' id = some b' ∧ Like b b' ∧ (addrOp op = false → b' = b)
theorem Sees.same {H H' : Heap} (h : Sees op av H H') (ha : addrOp op = false) {x : Operand} (hx : x ∈ op.operands) : Same (av x) H H' := by
 intro id b hm hl
 obtain ⟨b', h1, _, h2⟩ := h id b ⟨x, hx, hm⟩ hl
 rw [h1, h2 ha]
theorem men_argA {id : Nat} {a : AV} (h : men id (argA a) = true) : men id a = true := by
 cases a <;> first | exact h | (simp [argA, men] at h)
theorem menL_map {id : Nat} {l : List Operand} (h : menL id (l.map fun x => argA (av x)) = true) : ∃ x ∈ l, men id (av x) = true := by
 induction l with
 | nil => simp [menL] at h
 | cons x l ih =>
  simp only [List.map_cons, menL, Bool.or_eq_true] at h
  rcases h with h | h
  ·exact ⟨x, by simp, men_argA h⟩
  ·obtain ⟨y, hy, hm⟩ := ih h
   exact ⟨y, by simp [hy], hm⟩
theorem menL_append {id : Nat} : ∀ {as bs : List AV}, menL id (as ++ bs) = true → menL id as = true ∨ menL id bs = true
 | [], _, h => .inr h
 | a :: as, bs, h => by
  simp only [List.cons_append, menL, Bool.or_eq_true] at h ⊢
  rcases h with h | h
  ·exact .inl (.inl h)
  ·rcases menL_append h with h | h
   ·exact .inl (.inr h)
   ·exact .inr h
theorem menL_left {id : Nat} : ∀ {as bs : List AV}, menL id as = true → menL id (as ++ bs) = true
 | [], _, h => by simp [menL] at h
 | a :: as, bs, h => by
  simp only [List.cons_append, menL, Bool.or_eq_true] at h ⊢
  rcases h with h | h
  ·exact .inl h
  ·exact .inr (menL_left h)
theorem opf_det {g : AV → New → Option R} {r : R} (h : opf cx H av site op g = some r) : ∃ a n, g a n = some r ∧ ∀ (H' : Heap) (R' : Type) (g' : AV → New → Option R'), Sees op av H H' → opf cx H' av site op g' = g' a n := by
 cases op with
 | move x => simp only [opf] at h; exact ⟨_, _, h, fun _ _ _ _ => by simp only [opf]⟩
 | assign x => simp only [opf] at h; exact ⟨_, _, h, fun _ _ _ _ => by simp only [opf]⟩
 | pick c a b =>
  simp only [opf] at h
  split at h
  ·rename_i cb hc
   split at h
   ·rename_i x y hx hy
    exact ⟨_, _, h, fun _ _ _ _ => by simp only [opf, hc, hx, hy]⟩
   ·rename_i hn
    cases cb with
    | true =>
     refine ⟨_, _, h, fun _ _ _ _ => ?_⟩
     simp only [opf, hc]
     rfl
    | false =>
     refine ⟨_, _, h, fun _ _ _ _ => ?_⟩
     simp only [opf, hc]
     rfl
  ·cases h
 | alloc T =>
  simp only [opf] at h
  split at h
  ·rename_i hT; exact ⟨_, _, h, fun _ _ _ _ => by simp only [opf, hT]⟩
  ·cases h
 | box T x =>
  simp only [opf] at h
  split at h
  ·rename_i l i z hm
   unfold guardP at h
   split at h
   ·rename_i hd
    refine ⟨_, _, h, fun H' _ _ he => ?_⟩
    have hd' : toDat H' z.1 (.agg l) = some z.2 := by
     refine toDat_ext z.1 (.agg l) ?_ hd
     cases hav : av x with
     | agg as =>
      rw [hav] at hm
      simp only [hmOf] at hm
      have has := lastHm_spec hm
      have hsx := he.same rfl (x := x) (by simp [Op.operands])
      rw [hav] at hsx
      intro id b hmen hl
      refine hsx id b ?_ hl
      simp only [men] at hmen ⊢
      rw [has]
      exact menL_left hmen
     | _ => rw [hav] at hm; simp [hmOf] at hm
    simp only [opf, hm, guardP]
    rw [if_pos hd']
   ·cases h
  ·rename_i hm
   split at h
   ·rename_i hT
    split at h
    ·rename_i hc; exact ⟨_, _, h, fun _ _ _ _ => by simp only [opf, hm, hT]; rw [if_pos hc]⟩
    ·cases h
   ·cases h
 | build T ps =>
  simp only [opf] at h
  split at h
  ·rename_i te hT
   split at h
   ·rename_i z hz
    split at h
    ·rename_i hb
     obtain ⟨a, h1, h2⟩ := buildAll_det _ h
     exact ⟨_, _, h1, fun _ _ _ _ => by simp only [opf, hT, hz]; rw [if_pos hb, h2]⟩
    ·cases h
   ·cases h
  ·cases h
 | buildSlice T n ps =>
  simp only [opf] at h
  split at h
  ·rename_i hT
   split at h
   ·rename_i hT'
    split at h
    ·rename_i hn
     split at h
     ·rename_i hp
      exact ⟨_, _, h, fun _ _ _ _ => by simp only [opf, hT, hT']; rw [if_pos hn, if_pos hp]⟩
     ·cases h
    ·rename_i hn
     split at h
     ·rename_i hc
      split at h
      ·rename_i x0 hx0
       split at h
       ·rename_i xs hxs
        cases hfl : cx.full (site % 10000000) with
        | true =>
         rw [hfl, cond_true] at h
         refine ⟨_, _, h, fun H' _ _ he => ?_⟩
         have h1 := datsOf_ext _ (fun p hp => by
          obtain ⟨q, hq, rfl⟩ := List.mem_map.1 hp
          exact he.same rfl (x := q.2) (by simp [Op.operands]; exact ⟨q.1, by simpa using hq⟩)) hxs
         simp only [opf, hT, hT']; rw [if_neg hn, if_pos hc]; simp only [hx0, h1, hfl, cond_true]
        | false =>
         rw [hfl, cond_false] at h
         refine ⟨_, _, h, fun H' _ _ he => ?_⟩
         have h1 := datsOf_ext _ (fun p hp => by
          obtain ⟨q, hq, rfl⟩ := List.mem_map.1 hp
          exact he.same rfl (x := q.2) (by simp [Op.operands]; exact ⟨q.1, by simpa using hq⟩)) hxs
         simp only [opf, hT, hT']; rw [if_neg hn, if_pos hc]; simp only [hx0, h1, hfl, cond_false]
       ·cases h
      ·cases h
     ·cases h
   ·cases h
  ·cases h
 | load T x =>
  simp only [opf] at h
  split at h
  ·rename_i te hT
   split at h
   ·rename_i id p hav
    split at h
    ·rename_i a f hl
     obtain ⟨b, h1, h2⟩ := getA_det _ _ h
     split at h1
     ·rename_i hc
      exact ⟨_, _, h1, fun H' _ _ he => by
      have hl' := he.same rfl (x := x) (by simp [Op.operands]) id _ (by rw [hav]; simp [men]) hl
      simp only [opf, hT, hav, hl']; rw [h2, if_pos hc]⟩
     ·cases h1
    ·rename_i t xs l hl
     split at h
     ·rename_i i p
      obtain ⟨hi, h⟩ := cond_det h
      obtain ⟨b, h1, h2⟩ := getT_det _ _ _ h
      split at h1
      ·rename_i hc
       exact ⟨_, _, h1, fun H' _ _ he => by
        have hl' := he.same rfl (x := x) (by simp [Op.operands]) id _ (by rw [hav]; simp [men]) hl
        simp only [opf, hT, hav, hl']; rw [decide_eq_true hi, cond_true, h2, if_pos hc]⟩
      ·cases h1
     ·cases h
    ·cases h
   ·rename_i t y hav
    split at h
    ·rename_i hc
     exact ⟨_, _, h, fun _ _ _ _ => by simp only [opf, hT, hav]; rw [if_pos hc]⟩
    ·cases h
   ·rename_i i t y hav
    split at h
    ·rename_i hc
     exact ⟨_, _, h, fun _ _ _ _ => by simp only [opf, hT, hav]; rw [if_pos hc]⟩
    ·cases h
   ·cases h
  ·cases h
 | nilCheck x =>
  simp only [opf] at h
  split at h
  ·rename_i id p hav
   split at h
   ·rename_i hl
    refine ⟨_, _, h, fun _ _ _ he => ?_⟩
    obtain ⟨b, hb⟩ := Option.isSome_iff_exists.1 hl
    simp only [opf, hav]
    obtain ⟨b', hb', _⟩ := he id b ⟨x, by simp [Op.operands], by rw [hav]; simp [men]⟩ hb
    rw [if_pos (by rw [hb']; rfl)]
   ·cases h
  ·rename_i hav; exact ⟨_, _, h, fun _ _ _ _ => by simp only [opf, hav]⟩
  ·rename_i hav; exact ⟨_, _, h, fun _ _ _ _ => by simp only [opf, hav]⟩
  ·rename_i i t y hav
   cases y with
   | none => cases h
   | some y => exact ⟨_, _, h, fun _ _ _ _ => by simp only [opf, hav]; rfl⟩
  ·rename_i hav; exact ⟨_, _, h, fun _ _ _ _ => by simp only [opf, hav]⟩
  ·cases h
 | binOp o T x y T' =>
  simp only [opf] at h
  obtain ⟨c, h1, h2⟩ := binA_det h
  exact ⟨_, _, h1, fun H' R' g' he => by simp only [opf]; exact h2 H' R' _ (he.same rfl (by simp [Op.operands])) (he.same rfl (by simp [Op.operands]))⟩
 | unOp o T x =>
  simp only [opf] at h
  split at h
  ·rename_i hav; exact ⟨_, _, h, fun _ _ _ _ => by simp only [opf, hav]⟩
  ·rename_i hav; exact ⟨_, _, h, fun _ _ _ _ => by simp only [opf, hav]⟩
  ·cases h
 | convert S T x =>
  simp only [opf] at h
  split at h
  ·rename_i h1 h2 h3; exact ⟨_, _, h, fun _ _ _ _ => by simp only [opf, h1, h2, h3]⟩
  ·cases h
 | makeFunc fn fs cs =>
  cases fn with
  | func f => simp only [opf] at h; exact ⟨_, _, h, fun _ _ _ _ => by simp only [opf]⟩
  | _ => simp [opf] at h
 | slice T x lo hi mx =>
  cases mx with
  | some m => simp [opf] at h
  | none =>
   simp only [opf] at h
   split at h
   ·rename_i hT
    split at h
    ·rename_i t xs y hav
     split at h
     ·rename_i k n hay
      split at h
      ·rename_i hc
       obtain ⟨h0, h1, h2⟩ := bndle h
       exact ⟨_, _, h2, fun _ _ _ _ => by simp only [opf, hT, hav, hay]; rw [if_pos hc]; simp [h0, h1]⟩
      ·cases h
     ·cases h
    ·rename_i t xs y hav
     split at h
     ·rename_i k n hay
      split at h
      ·rename_i hc
       obtain ⟨h0, h1, h2⟩ := bndle h
       exact ⟨_, _, h2, fun _ _ _ _ => by simp only [opf, hT, hav, hay]; rw [if_pos hc]; simp [h0, h1]⟩
      ·cases h
     ·cases h
    ·rename_i id y hav
     split at h
     ·rename_i k n t xs l hay hl
      split at h
      ·rename_i hc
       obtain ⟨h0, h1, h2⟩ := bndle h
       exact ⟨_, _, h2, fun H' _ _ he => by
        have hl' := he.same rfl (x := x) (by simp [Op.operands]) id _ (by rw [hav]; simp [men]) hl
        simp only [opf, hT, hav, hay, hl']; rw [if_pos hc]; simp [h0, h1]⟩
      ·cases h
     ·cases h
    ·rename_i id y hav
     split at h
     ·rename_i k n t xs l hay hl
      split at h
      ·rename_i hc
       obtain ⟨h0, h1, h2⟩ := bndle h
       exact ⟨_, _, h2, fun H' _ _ he => by
        have hl' := he.same rfl (x := x) (by simp [Op.operands]) id _ (by rw [hav]; simp [men]) hl
        simp only [opf, hT, hav, hay, hl']; rw [if_pos hc]; simp [h0, h1]⟩
      ·cases h
     ·cases h
    ·cases h
   ·rename_i hT
    split at h
    ·rename_i m t y l hh hav hbl hbh
     split at h
     ·rename_i hc
      obtain ⟨h0, h1, h3, h2⟩ := bnd3 h
      exact ⟨_, _, h2, fun _ _ _ _ => by simp only [opf, hT, hav, hbl, hbh]; rw [if_pos hc]; simp [h0, h1, h3]⟩
     ·cases h
    ·rename_i id l hh hav hbl hbh
     split at h
     ·rename_i b f hl
      split at h
      ·rename_i m s hsk
       split at h
       ·rename_i hc
        obtain ⟨h0, h1, h3, h2⟩ := bnd3 h
        exact ⟨_, _, h2, fun H' _ _ he => by
         have hl' := he.same rfl (x := x) (by simp [Op.operands]) id _ (by rw [hav]; simp [men]) hl
         simp only [opf, hT, hav, hbl, hbh, hl', hsk]; rw [if_pos hc]; simp [h0, h1, h3]⟩
       ·cases h
      ·cases h
     ·cases h
    ·cases h
   ·cases h
 | fieldAddr T x k =>
  simp only [opf] at h
  split at h
  ·rename_i hT
   split at h
   ·rename_i off hoff
    split at h
    ·rename_i id p hav
     split at h
     ·rename_i b hl
      split at h
      ·rename_i l hsk
       split at h
       ·rename_i hc
        exact ⟨_, _, h, fun H' _ _ he => by
         obtain ⟨b', hl', hlk, _⟩ := he id b ⟨x, by simp [Op.operands], by rw [hav]; simp [men]⟩ hl
         have hsk' : skAt (skB b') p = .node l := by rw [hlk.sk]; exact hsk
         simp only [opf, hT, hoff, hav, hl', hsk']; rw [if_pos hc]⟩
       ·cases h
      ·cases h
     ·cases h
    ·rename_i fs y hav
     split at h
     ·rename_i hc
      split at h
      ·rename_i t z hf
       exact ⟨_, _, h, fun _ _ _ _ => by simp only [opf, hT, hoff, hav]; rw [if_pos hc]; simp only [hf]⟩
      ·cases h
     ·cases h
    ·rename_i i fs y hav
     split at h
     ·rename_i hc
      split at h
      ·rename_i hk
       exact ⟨_, _, h, fun _ _ _ _ => by simp only [opf, hT, hoff, hav]; rw [if_pos hc, if_pos hk]⟩
      ·rename_i hk
       split at h
       ·rename_i t z hf
        exact ⟨_, _, h, fun _ _ _ _ => by simp only [opf, hT, hoff, hav]; rw [if_pos hc, if_neg hk]; simp only [hf]⟩
       ·cases h
     ·cases h
    ·cases h
   ·cases h
  ·cases h
 | indexAddr T x ix =>
  simp only [opf] at h
  split at h
  ·rename_i hT hix
   split at h
   ·rename_i id p hav
    split at h
    ·rename_i b hl
     split at h
     ·rename_i m s hsk
      split at h
      ·rename_i hc
       obtain ⟨h0, h1, h2⟩ := bnd h
       exact ⟨_, _, h2, fun H' _ _ he => by
        obtain ⟨b', hl', hlk, _⟩ := he id b ⟨x, by simp [Op.operands], by rw [hav]; simp [men]⟩ hl
        have hsk' : skAt (skB b') p = .rep m s := by rw [hlk.sk]; exact hsk
        simp only [opf, hT, hix, hav, hl', hsk']; rw [if_pos hc]; simp [h0, h1]⟩
      ·cases h
     ·rename_i l hsk
      split at h
      ·rename_i hc
       obtain ⟨h0, h1, h2⟩ := bnd h
       obtain ⟨h2, h3⟩ := splitN_det h2
       exact ⟨_, _, h2, fun H' _ g' he => by
        obtain ⟨b', hl', hlk, _⟩ := he id b ⟨x, by simp [Op.operands], by rw [hav]; simp [men]⟩ hl
        have hsk' : skAt (skB b') p = .node l := by rw [hlk.sk]; exact hsk
        simp only [opf, hT, hix, hav, hl', hsk']; rw [if_pos hc]; simp [h0, h1, h3]⟩
      ·cases h
     ·cases h
    ·cases h
   ·rename_i m t y hav
    split at h
    ·rename_i hc
     obtain ⟨h0, h1, h2⟩ := bnd h
     exact ⟨_, _, h2, fun _ _ _ _ => by simp only [opf, hT, hix, hav]; rw [if_pos hc]; simp [h0, h1]⟩
    ·cases h
   ·cases h
  ·rename_i hT hix
   split at h
   ·rename_i t xs hav
    split at h
    ·rename_i hc
     obtain ⟨h0, h1, h2⟩ := bnd h
     exact ⟨_, _, h2, fun _ _ _ _ => by simp only [opf, hT, hix, hav]; rw [if_pos hc]; simp [h0, h1]⟩
    ·cases h
   ·rename_i id hav
    split at h
    ·rename_i t xs l hl
     split at h
     ·rename_i hc
      obtain ⟨h0, h1, h2⟩ := bnd h
      exact ⟨_, _, h2, fun H' _ _ he => by
       obtain ⟨b', hl', hlk, _⟩ := he id _ ⟨x, by simp [Op.operands], by rw [hav]; simp [men]⟩ hl
       obtain ⟨xs', l', rfl, hlen⟩ := hlk.row _ _ _ rfl
       simp only [opf, hT, hix, hav, hl']; rw [if_pos hc, hlen]; simp [h0, h1]⟩
     ·cases h
    ·cases h
   ·rename_i id lo len hav
    split at h
    ·rename_i b f hl
     split at h
     ·rename_i m s hsk
      split at h
      ·rename_i hc
       obtain ⟨h0, h1, h2⟩ := bnd h
       exact ⟨_, _, h2, fun H' _ _ he => by
        obtain ⟨b', hl', hlk, _⟩ := he id _ ⟨x, by simp [Op.operands], by rw [hav]; simp [men]⟩ hl
        have hsk' : skB b' = .rep (m + 1) s := by rw [hlk.sk]; exact hsk
        cases b' with
        | box a' f' =>
         have hsk2 : skA a' = .rep (m + 1) s := hsk'
         simp only [opf, hT, hix, hav, hl', hsk2]; rw [if_pos hc]; simp [h0, h1]
        | row t xs l => simp [skB] at hsk'
        | loop => simp [skB] at hsk'
        | dfr => simp [skB] at hsk'⟩
      ·cases h
     ·cases h
    ·cases h
   ·cases h
  ·cases h
 | field T x k =>
  simp only [opf] at h
  split at h
  ·rename_i fs hu
   split at h
   ·rename_i f hf
    split at h
    ·rename_i te hT
     split at h
     ·rename_i hc
      obtain ⟨b, h1, h2⟩ := getA_det _ _ h
      split at h1
      ·rename_i hcc
       exact ⟨_, _, h1, fun _ _ _ _ => by simp only [opf, hu, hf, hT]; rw [if_pos hc, h2, if_pos hcc]⟩
      ·cases h1
     ·cases h
    ·cases h
   ·cases h
  ·cases h
 | index T x i =>
  simp only [opf] at h
  split at h
  ·rename_i sz ag n el esz ty eqq zz k i' hT hai
   split at h
   ·rename_i te hTe
    split at h
    ·rename_i hc
     cases h0 : (decide (0 ≤ i') && decide (i' < (n : Int))) with
     | true =>
      rw [h0, cond_true] at h
      obtain ⟨b, h1, h2⟩ := getA_det _ _ h
      split at h1
      ·rename_i hcc
       exact ⟨_, _, h1, fun _ _ _ _ => by simp only [opf, hT, hai, hTe]; rw [if_pos hc, h0, cond_true, h2, if_pos hcc]⟩
      ·cases h1
     | false => rw [h0] at h; cases h
    ·cases h
   ·cases h
  ·cases h
 | extract x k =>
  simp only [opf] at h
  split at h
  ·rename_i as hav
   split at h
   ·rename_i a ha; exact ⟨_, _, h, fun _ _ _ _ => by simp only [opf, hav, ha]⟩
   ·cases h
  ·cases h
 | call c =>
  obtain ⟨callee, args, tys⟩ := c
  cases callee with
  | value f =>
   simp only [opf] at h
   split at h
   ·rename_i k fs cs hav
    split at h
    ·rename_i c hc
     split at h
     ·rename_i x hx
      cases hy : c.f x with
      | none => rw [hy] at h; cases h
      | some y =>
       rw [hy] at h
       refine ⟨_, _, h, fun H' _ _ he => ?_⟩
       have hx' := toDatL_ext (H' := H') _ _ (fun id b hm hl => by
        have hex : ∃ x ∈ (Op.call { callee := .value f, args, argTypes := tys }).operands, men id (av x) = true := by
         rcases menL_append hm with hm | hm
         ·rcases menL_append hm with hm | hm
          ·exact ⟨f, by simp [Op.operands, Call.operands], by rw [hav]; simp [men, hm]⟩
          ·obtain ⟨x, hx, hm⟩ := menL_map hm
           exact ⟨x, by simp [Op.operands, Call.operands]; exact .inr (by simpa using hx), hm⟩
         ·exact ⟨f, by simp [Op.operands, Call.operands], by rw [hav]; simp [men, hm]⟩
        obtain ⟨b', h1, _, h2⟩ := he id b hex hl
        rw [h1, h2 rfl]) hx
       simp only [opf, hav, hc, hx', hy]; rfl
     ·cases h
    ·rename_i hnc
     split at h
     ·rename_i c hc
      split at h
      ·rename_i x hx
       cases hy : c.f x with
       | none => rw [hy] at h; cases h
       | some y =>
        rw [hy] at h
        refine ⟨_, _, h, fun H' _ _ he => ?_⟩
        have hx' := toDatR_ext (H' := H') _ _ _ (fun id b hm hl => by
         have hex : ∃ x ∈ (Op.call { callee := .value f, args, argTypes := tys }).operands, men id (av x) = true := by
          rcases menL_append hm with hm | hm
          ·rcases menL_append hm with hm | hm
           ·exact ⟨f, by simp [Op.operands, Call.operands], by rw [hav]; simp [men, hm]⟩
           ·obtain ⟨x, hx, hm⟩ := menL_map hm
            exact ⟨x, by simp [Op.operands, Call.operands]; exact .inr (by simpa using hx), hm⟩
          ·exact ⟨f, by simp [Op.operands, Call.operands], by rw [hav]; simp [men, hm]⟩
         obtain ⟨b', h1, _, h2⟩ := he id b hex hl
         rw [h1, h2 rfl]) hx
        simp only [opf, hav, hnc, hc, hx', hy]; rfl
      ·cases h
     ·rename_i hnr
      split at h
      ·rename_i a hc he
       exact ⟨_, _, h, fun _ _ _ _ => by simp only [opf, hav, hnc, hnr, hc, he]⟩
      ·cases h
   ·cases h
  | invoke x m => simp [opf] at h
  | builtin b =>
   simp only [opf] at h
   split at h
   ·rename_i a hav
    split at h
    ·rename_i T Ts htys
     split at h
     ·rename_i hT
      split at h
      ·rename_i n hn
       refine ⟨_, _, h, fun H' _ _ he => ?_⟩
       have hn' := lenA_ext (H' := H') (fun id b hm hl => by
        have hmem : a ∈ args.toList.map av := by rw [hav]; simp
        obtain ⟨x, hx, rfl⟩ := List.mem_map.1 hmem
        obtain ⟨b', h1, _, h2⟩ := he id b ⟨x, by simp [Op.operands, Call.operands]; simpa using hx, hm⟩ hl
        rw [h1, h2 rfl]) hn
       simp only [opf, hav, htys, hT, hn']
      ·cases h
     ·cases h
    ·cases h
   ·rename_i k x l hav
    split at h
    ·rename_i n hn
     exact ⟨_, _, h, fun _ _ _ _ => by simp only [opf, hav, hn]⟩
    ·cases h
   ·rename_i k x l hav
    split at h
    ·rename_i n hn
     exact ⟨_, _, h, fun _ _ _ _ => by simp only [opf, hav, hn]⟩
    ·cases h
   ·rename_i t0 xs0 x hav
    split at h
    ·rename_i T T' htys
     split at h
     ·rename_i hTT
      split at h
      ·rename_i hT
       split at h
       ·rename_i _ _ _ t _ _ hT'
        split at h
        ·rename_i ys xs hys hxs
         obtain ⟨h, _, _, hlA⟩ := limA_some h
         refine ⟨_, _, h, fun H' _ _ he => ?_⟩
         have hmem : x ∈ args.toList.map av := by rw [hav]; simp
         obtain ⟨z, hz, rfl⟩ := List.mem_map.1 hmem
         have h1 := toDat_ext _ _ (he.same rfl (x := z) (by simp [Op.operands, Call.operands]; simpa using hz)) hys
         simp only [opf, hav, htys, hT, hT', h1, hxs, hlA]
         rw [if_pos hTT]
        ·cases h
       ·cases h
      ·cases h
     ·cases h
    ·cases h
   ·cases h
 | _ => simp [opf] at h
theorem opg_opf (h : ∀ args tys, op ≠ .call { callee := .builtin .append, args := args, argTypes := tys }) {R : Type} (H : Heap) (av : Operand → AV) (g : AV → New → Option R) : opg cx H av site op g = opf cx H av site op g := by
 unfold opg
 split
 ·rename_i args tys
  exact absurd rfl (h args tys)
 ·rfl
theorem opg_det {g : AV → New → Option R} {r : R} (h : opg cx H av site op g = some r) : ∃ a n, g a n = some r ∧ ∀ (H' : Heap) (R' : Type) (g' : AV → New → Option R'), Sees op av H H' → opg cx H' av site op g' = g' a n := by
 by_cases hap : ∃ args tys, op = .call { callee := .builtin .append, args := args, argTypes := tys }
 ·obtain ⟨args, tys, rfl⟩ := hap
  simp only [opg] at h
  split at h
  ·rename_i T T' x htys hargs
   split at h
   ·rename_i hTT
    split at h
    ·rename_i hT
     split at h
     ·rename_i _ _ _ t _ _ hT'
      split at h
      ·rename_i ys hys
       obtain ⟨h, _, _, hlA⟩ := limA_some h
       refine ⟨_, _, h, fun H' _ _ he => ?_⟩
       have hmem : x ∈ args.toList.map av := by rw [hargs]; simp
       obtain ⟨z, hz, rfl⟩ := List.mem_map.1 hmem
       have h1 := toDat_ext _ _ (he.same rfl (x := z) (by simp [Op.operands, Call.operands]; simpa using hz)) hys
       simp only [opg, htys, hargs, hT, hT', h1, hlA]
       rw [if_pos hTT]
      ·cases h
     ·cases h
    ·cases h
   ·cases h
  ·rename_i hne
   obtain ⟨a, n, h1, h2⟩ := opf_det h
   refine ⟨a, n, h1, fun H' R' g' he => ?_⟩
   simp only [opg]
   exact h2 H' R' g' he
 ·have hap' : ∀ args tys, op ≠ .call { callee := .builtin .append, args := args, argTypes := tys } := fun args tys e => hap ⟨args, tys, e⟩
  rw [opg_opf hap'] at h
  obtain ⟨a, n, h1, h2⟩ := opf_det h
  exact ⟨a, n, h1, fun H' R' g' he => by rw [opg_opf hap']; exact h2 H' R' g' he⟩
def avO (av : Operand → AV) (u id : Nat) : Operand → AV
 | .tmp v => if v = u then .row id else av (.tmp v)
 | x => av x
theorem avO_other {av : Operand → AV} {u id : Nat} {y : Operand} (h : y ≠ .tmp u) : avO av u id y = av y := by
 cases y with
 | tmp v => simp only [avO]; rw [if_neg (fun e => h (by rw [e]))]
 | _ => rfl
theorem apBase_spec {op : Op} {u : Nat} (h : apBase op = some u) : ∃ args tys y, op = .call { callee := .builtin .append, args := args, argTypes := tys } ∧ args.toList = [.tmp u, y] ∧ y ≠ .tmp u := by
 unfold apBase at h
 split at h
 ·rename_i args tys
  refine ⟨args, tys, ?_⟩
  split at h
  ·rename_i u' v hargs
   cases hb : Nat.beq u' v with
   | true => rw [hb] at h; cases h
   | false =>
    rw [hb] at h
    cases h
    exact ⟨_, rfl, hargs, fun e => by injection e with e; subst e; rw [Nat.beq_refl] at hb; cases hb⟩
  ·rename_i u' y hne hargs
   cases h
   exact ⟨_, rfl, hargs, fun e => hne _ e⟩
  ·cases h
 ·cases h
theorem growA_det {id u : Nat} {g : Blk → Option R} {r : R} (hu : apBase op = some u) (h : growA cx H av site id op g = some r) : ∃ b b0, hlook H id = some b0 ∧ g b = some r ∧ (∃ t xs, b = .row t xs false) ∧
  ∀ H', hlook H' id = some b0 → Sees op av H H' → opw cx H' (avO av u id) site op (fun a H => some (a, H)) = some (.row id, (id, b) :: purgeH id H') := by
 obtain ⟨args, tys, y, rfl, hargs, hy⟩ := apBase_spec hu
 simp only [growA, hargs] at h
 split at h
 ·rename_i T T' _ y' htys e
  simp only [List.cons.injEq, and_true] at e
  obtain ⟨_, rfl⟩ := e
  split at h
  ·rename_i hTT
   split at h
   ·rename_i hT
    split at h
    ·rename_i _ _ _ t _ _ hT'
     split at h
     ·rename_i ys hys
      split at h
      ·rename_i t' xs0 hl
       split at h
       ·rename_i xs hxs
        obtain ⟨h, _, _, hlA⟩ := limA_some h
        refine ⟨_, _, hl, h, ⟨_, _, rfl⟩, fun H' hl' he => ?_⟩
        have h1 := toDat_ext _ _ (he.same rfl (x := y) (by simp [Op.operands, Call.operands]; rw [← Array.mem_toList_iff, hargs]; simp)) hys
        have hav : args.toList.map (avO av u id) = [.row id, av y] := by
         rw [hargs]
         simp only [List.map_cons, List.map_nil, avO_other hy]
         simp [avO]
        simp only [opw, htys, hav, hT, hT', h1, hl', hxs, hlA]
        rw [if_pos hTT]
       ·cases h
      ·cases h
     ·cases h
    ·cases h
   ·cases h
  ·cases h
 ·cases h
end
end Go.Gh
/- The ghost machine: a region that draws its order: its checks, and what the ghost's own order comes to. Conditions: none (lemmas alone). -/
namespace Go.Gh
theorem bits_fold {acc : Array Nat} {j : Nat} : ∀ (es : List Edge) (s : Nat), (es.foldl (fun s e => if Region.binds .any e then s ||| 2 ^ e.on ||| acc.getD e.on 0 else s) s).testBit j = true →
  s.testBit j = true ∨ ∃ e ∈ es, Region.binds .any e = true ∧ (j = e.on ∨ (acc.getD e.on 0).testBit j = true)
 | [], s, h => .inl h
 | e :: es, s, h => by
  rw [List.foldl_cons] at h
  rcases bits_fold es _ h with h1 | ⟨e', h1, h2, h3⟩
  ·split at h1
   ·rename_i hb
    simp only [Nat.testBit_or, Bool.or_eq_true, Nat.testBit_two_pow, decide_eq_true_eq] at h1
    rcases h1 with (h1 | h1) | h1
    ·exact .inl h1
    ·exact .inr ⟨e, by simp, hb, .inl h1.symm⟩
    ·exact .inr ⟨e, by simp, hb, .inr h1⟩
   ·exact .inl h1
  ·exact .inr ⟨e', by simp [h1], h2, h3⟩
def beforeStep (acc : Array Nat) (o : Oper) : Array Nat := acc.push (o.after.foldl (fun s e => if Region.binds .any e then s ||| 2 ^ e.on ||| acc.getD e.on 0 else s) 0)
theorem before_eq (ops : Array Oper) : Region.before ops = ops.toList.foldl beforeStep #[] := by
 rw [Array.foldl_toList]; rfl
theorem before_list : ∀ (l p : List Oper) (acc : Array Nat), acc.size = p.length → (∀ (i : Nat) (o : Oper), p[i]? = some o → ∀ j, (acc.getD i 0).testBit j = true → ∃ e ∈ o.after, Region.binds .any e = true ∧ (j = e.on ∨ (acc.getD e.on 0).testBit j = true)) →
  ∀ (i : Nat) (o : Oper), (p ++ l)[i]? = some o → ∀ j, ((l.foldl beforeStep acc).getD i 0).testBit j = true → ∃ e ∈ o.after, Region.binds .any e = true ∧ (j = e.on ∨ ((l.foldl beforeStep acc).getD e.on 0).testBit j = true)
 | [], p, acc, _, h, i, o, hi, j, hj => h i o (by simpa using hi) j hj
 | a :: l, p, acc, hs, h, i, o, hi, j, hj => by
  have hpush : ∀ k, (beforeStep acc a).getD k 0 = if k = acc.size then (a.after.foldl (fun s e => if Region.binds .any e then s ||| 2 ^ e.on ||| acc.getD e.on 0 else s) 0) else acc.getD k 0 := by
   intro k
   simp only [beforeStep, Array.getD_eq_getD_getElem?, Array.getElem?_push]
   split <;> rfl
  have hlift : ∀ k j, (acc.getD k 0).testBit j = true → ((beforeStep acc a).getD k 0).testBit j = true := by
   intro k j hk
   rw [hpush]
   split
   ·rename_i e
    rw [e, Array.getD_eq_getD_getElem?, Array.getElem?_eq_none (Nat.le_refl _)] at hk
    simp at hk
   ·exact hk
  rw [List.foldl_cons] at hj ⊢
  refine before_list l (p ++ [a]) (beforeStep acc a) (by simp [beforeStep, hs]) ?_ i o (by simpa using hi) j hj
  intro i o hi j hj
  rw [hpush] at hj
  split at hj
  ·rename_i e
   subst e
   have ho : o = a := by
    rw [hs, List.getElem?_append_right (Nat.le_refl _)] at hi
    simpa using hi.symm
   subst ho
   rw [← Array.foldl_toList] at hj
   rcases bits_fold _ _ hj with h1 | ⟨e, h1, h2, h3⟩
   ·simp at h1
   ·exact ⟨e, by simpa using h1, h2, h3.imp id (hlift _ _)⟩
  ·rename_i e
   have hi' : p[i]? = some o := by
    have hlt := (List.getElem?_eq_some_iff.1 hi).1
    simp at hlt
    rw [List.getElem?_append_left (by omega)] at hi
    exact hi
   obtain ⟨e, h1, h2, h3⟩ := h i o hi' j hj
   exact ⟨e, h1, h2, h3.imp id (hlift _ _)⟩
theorem before_spec {ops : Array Oper} {i j : Nat} {o : Oper} (ho : ops[i]? = some o) (h : befs ops i j = true) : ∃ e ∈ o.after, Region.binds .any e = true ∧ (j = e.on ∨ befs ops e.on j = true) := by
 unfold befs at h ⊢
 rw [before_eq] at h ⊢
 exact before_list ops.toList [] #[] rfl (fun i o hi => by simp at hi) i o (by simpa using ho) j h
theorem bound_spec {ops : Array Oper} {h : Nat} (hb : bound ops h = true) {i j : Nat} (h1 : h ≤ i) (h2 : i < ops.size) (h3 : j < h) : befs ops i j = true := by
 unfold bound at hb
 rw [List.all_eq_true] at hb
 have h4 := hb i (by rw [List.mem_range'_1]; omega)
 rw [List.all_eq_true] at h4
 exact h4 j (by simpa using h3)
theorem nextFrom_spec {ops : Array Oper} : ∀ (n h : Nat), h + n = ops.size → h ≤ nextFrom ops n h ∧ nextFrom ops n h ≤ ops.size ∧ ∀ i j, nextFrom ops n h ≤ i → i < ops.size → j < nextFrom ops n h → befs ops i j = true
 | 0, h, hs => ⟨Nat.le_refl _, by simp only [nextFrom]; omega, fun i j h1 h2 _ => by simp only [nextFrom] at h1; omega⟩
 | n + 1, h, hs => by
  simp only [nextFrom]
  cases hb : bound ops h with
  | true =>
   rw [cond_true]
   exact ⟨Nat.le_refl _, by omega, fun i j h1 h2 h3 => bound_spec hb h1 h2 h3⟩
  | false =>
   rw [cond_false]
   obtain ⟨h1, h2, h3⟩ := nextFrom_spec (ops := ops) n (h + 1) (by omega)
   exact ⟨by omega, h2, h3⟩
theorem nextB_spec {ops : Array Oper} {lo : Nat} (h : lo < ops.size) : lo < nextB ops lo ∧ nextB ops lo ≤ ops.size ∧ ∀ i j, nextB ops lo ≤ i → i < ops.size → j < nextB ops lo → befs ops i j = true := by
 obtain ⟨h1, h2, h3⟩ := nextFrom_spec (ops := ops) (ops.size - (lo + 1)) (lo + 1) (by omega)
 exact ⟨h1, h2, h3⟩
theorem edgeOK_spec {ops : Array Oper} (h : edgeOK ops = true) : ∀ i o, ops[i]? = some o → ∀ e ∈ o.after, Region.binds .any e = true → e.on < i := by
 unfold edgeOK at h
 rw [List.all_eq_true] at h
 intro i o ho e he hb
 have h3 := h (o, i) (by rw [List.mk_mem_zipIdx_iff_getElem?]; simpa using ho)
 simp only [Array.all_eq_true_iff_forall_mem, Bool.or_eq_true, Bool.not_eq_true'] at h3
 rcases h3 e he with h4 | h4
 ·rw [hb] at h4; cases h4
 ·exact blt_iff.1 h4
structure DrawOK (ops : Array Oper) (n lo hi : Nat) : Prop where
 op : ∀ i, lo ≤ i → i < hi → ∃ o, ops[i]? = some o
 lt : ∀ i o d, lo ≤ i → i < hi → ops[i]? = some o → o.dst = some d → d < n
 apart : ∀ i j o o' d, lo ≤ i → i < hi → lo ≤ j → j < hi → i ≠ j → ops[i]? = some o → ops[j]? = some o' → o'.dst = some d → o.dst ≠ some d
 look : ∀ i j o o' d, lo ≤ i → i < hi → lo ≤ j → j < hi → ops[i]? = some o → ops[j]? = some o' → o'.dst = some d → d ∈ looks ops o → (j < i ∧ befs ops i j = true) ∨ i = j ∨ befs ops j i = true
theorem mem_grp {lo hi i : Nat} : i ∈ List.range' lo (hi - lo) ↔ lo ≤ i ∧ i < hi := by
 rw [List.mem_range'_1]; omega
theorem drawOK_spec {ops : Array Oper} {n lo hi : Nat} (h2 : drawOK ops n lo hi = true) : DrawOK ops n lo hi := by
 unfold drawOK at h2
 rw [List.all_eq_true] at h2
 have key : ∀ i, lo ≤ i → i < hi → ∃ o, ops[i]? = some o ∧ (match o.dst with | some d => Nat.blt d n | none => true) = true ∧ ∀ j, lo ≤ j → j < hi → ∀ o', ops[j]? = some o' → ∀ d, o'.dst = some d → (i == j || o.dst != some d) = true ∧ (!(looks ops o).contains d || (Nat.blt j i && befs ops i j) || Nat.beq i j || befs ops j i) = true := by
  intro i hl hi
  have h3 := h2 i (mem_grp.2 ⟨hl, hi⟩)
  split at h3
  ·cases h3
  ·rename_i o ho
   rw [Bool.and_eq_true, List.all_eq_true] at h3
   refine ⟨o, ho, h3.1, fun j hl' hj o' ho' d hd => ?_⟩
   have h4 := h3.2 j (mem_grp.2 ⟨hl', hj⟩)
   simp only [ho', hd, Bool.and_eq_true] at h4
   exact h4
 refine ⟨fun i hl hi => let ⟨o, ho, _⟩ := key i hl hi; ⟨o, ho⟩, ?_, ?_, ?_⟩
 ·intro i o d hl hi ho hd
  obtain ⟨o2, ho2, h3, _⟩ := key i hl hi
  rw [ho] at ho2; cases ho2
  rw [hd] at h3
  exact blt_iff.1 h3
 ·intro i j o o' d hl hi hl' hj hij ho ho' hd
  obtain ⟨o2, ho2, _, h3⟩ := key i hl hi
  rw [ho] at ho2; cases ho2
  have h4 := (h3 j hl' hj o' ho' d hd).1
  simp only [Bool.or_eq_true, beq_iff_eq, bne_iff_ne] at h4
  exact h4.resolve_left hij
 ·intro i j o o' d hl hi hl' hj ho ho' hd hk
  obtain ⟨o2, ho2, _, h3⟩ := key i hl hi
  rw [ho] at ho2; cases ho2
  have h4 := (h3 j hl' hj o' ho' d hd).2
  simp only [Bool.or_eq_true, Bool.not_eq_true', Bool.and_eq_true] at h4
  rcases h4 with ((h4 | h4) | h4) | h4
  ·rw [List.contains_iff_mem.2 hk] at h4; cases h4
  ·exact .inl ⟨blt_iff.1 h4.1, h4.2⟩
  ·exact .inr (.inl (Nat.eq_of_beq_eq_true h4))
  ·exact .inr (.inr h4)
theorem beq_f {i j : Nat} (h : i ≠ j) : Nat.beq i j = false := by
 cases hq : Nat.beq i j with
 | false => rfl
 | true => exact absurd (Nat.eq_of_beq_eq_true hq) h
theorem apartOK_spec {s : Cf} {ops : Array Oper} {lo hi : Nat} (h : apartOK s ops lo hi = true) {i j a : Nat} (hl : lo ≤ i) (hi' : i < hi) (hl' : lo ≤ j) (hj : j < hi) (h1 : (ops[i]?).bind (allocOf s) = some a) (h2 : (ops[j]?).bind (allocOf s) = some a) : i = j := by
 unfold apartOK at h
 rw [List.all_eq_true] at h
 have h3 := h i (mem_grp.2 ⟨hl, hi'⟩)
 rw [List.all_eq_true] at h3
 have h4 := h3 j (mem_grp.2 ⟨hl', hj⟩)
 rw [h1, h2] at h4
 simp only [Nat.beq_refl, Bool.not_true, Bool.or_false] at h4
 exact Nat.eq_of_beq_eq_true h4
theorem drawMen_spec {s : Cf} {ops : Array Oper} {lo hi : Nat} {r : Regs} {effs : Effs} (h : drawMen s ops lo hi r effs = true) {i id : Nat} (hl : lo ≤ i) (hi' : i < hi) (h1 : (ops[i]?).bind (allocOf s) = some id) :
  (∀ j o d, lo ≤ j → j < hi → i ≠ j → befs ops j i = false → ops[j]? = some o → o.dst = some d → men id (look r d) = false) ∧ (∀ j id' b, (j, id', b) ∈ effs → (i ≠ j → befs ops j i = false) → menB id b = false) := by
 unfold drawMen at h
 rw [List.all_eq_true] at h
 have h4 := h i (mem_grp.2 ⟨hl, hi'⟩)
 rw [h1] at h4
 simp only [Bool.and_eq_true, List.all_eq_true] at h4
 refine ⟨fun j o d hj1 hj2 hij hb ho hd => ?_, fun j id' b he hb => ?_⟩
 ·have h5 := h4.1 j (mem_grp.2 ⟨hj1, hj2⟩)
  rw [beq_f hij, hb, ho] at h5
  simpa [hd] using h5
 ·have h5 := h4.2 (j, id', b) he
  simp only [Bool.or_eq_true, Bool.and_eq_true, Bool.not_eq_true'] at h5
  rcases h5 with h5 | h5
  ·have hij : i ≠ j := fun e => by subst e; rw [Nat.beq_refl] at h5; cases h5.1
   rw [hb hij] at h5; cases h5.2
  ·exact h5
theorem setsOK_spec {cx : Ctx} {s : Cf} {ops : Array Oper} {lo hi : Nat} {r : Regs} {effs : Effs} (h : setsOK cx s ops lo hi r effs = true) {w id : Nat} {b : Blk} {o : Oper} (he : (w, id, b) ∈ effs) (ho : ops[w]? = some o) (hs : isStore o.op = true) :
  (∀ w' b', (w', id, b') ∈ effs → w' = w ∨ befs ops w w' = true ∨ (befs ops w' w = true ∧ ∃ o', ops[w']? = some o' ∧ isStore o'.op = true)) ∧
  (∀ i o', lo ≤ i → i < hi → i ≠ w → befs ops i w = false → befs ops w i = false → ops[i]? = some o' → addrOp o'.op = true ∨ ∀ x ∈ o'.op.operands, men id (opA cx r x) = false ∧ men id (opA cx s.fr.regs x) = false) := by
 unfold setsOK at h
 rw [List.all_eq_true] at h
 have h1 := h (w, id, b) he
 simp only [ho, hs, Bool.not_true, Bool.false_or, Bool.and_eq_true, List.all_eq_true] at h1
 refine ⟨fun w' b' he' => ?_, fun i o' hl hi' hne hb1 hb2 ho' => ?_⟩
 ·have h2 := h1.1 (w', id, b') he'
  by_cases hne : w = w'
  ·exact .inl hne.symm
  ·simp only [beq_f hne, Nat.beq_refl, Bool.not_true, Bool.or_false, Bool.false_or, Bool.or_eq_true, Bool.and_eq_true] at h2
   rcases h2 with h2 | ⟨h2, h3⟩
   ·exact .inr (.inl h2)
   ·refine .inr (.inr ⟨h2, ?_⟩)
    split at h3
    ·rename_i o' ho'
     exact ⟨o', ho', h3⟩
    ·cases h3
 ·have h2 := h1.2 i (mem_grp.2 ⟨hl, hi'⟩)
  rw [beq_f hne, hb1, hb2, ho'] at h2
  simp only [Bool.false_or, Bool.or_eq_true] at h2
  rcases h2 with h2 | h2
  ·exact .inl h2
  ·right
   intro x hx
   rw [Array.all_eq_true_iff_forall_mem] at h2
   simpa using h2 x hx
theorem beq_o {a : Option Nat} {id : Nat} : (match a with | some a => Nat.beq a id | none => false) = true ↔ a = some id := by
 cases a with
 | none => simp
 | some a => simp only [Option.some.injEq]; exact ⟨Nat.eq_of_beq_eq_true, fun e => by rw [e]; exact Nat.beq_refl _⟩
theorem isGrowE_iff {s : Cf} {ops : Array Oper} {x id : Nat} {b : Blk} {o : Oper} (ho : ops[x]? = some o) : isGrowE s ops (x, id, b) = true ↔ isStore o.op = false ∧ allocOf s o ≠ some id := by
 unfold isGrowE
 simp only [ho, Bool.and_eq_true, Bool.not_eq_true']
 refine and_congr Iff.rfl ?_
 rw [Ne, ← beq_o, Bool.not_eq_true]
 exact Iff.rfl
theorem growOK_spec {cx : Ctx} {s : Cf} {ops : Array Oper} {lo hi : Nat} {r : Regs} {effs : Effs} (h : growOK cx s ops lo hi r effs = true) {w id : Nat} {b : Blk} (he : (w, id, b) ∈ effs) (hg : isGrowE s ops (w, id, b) = true) :
  (∀ i o, lo ≤ i → i < hi → ops[i]? = some o → (∀ x ∈ o.op.operands, men id (opA cx r x) = false) ∧ (i ≠ w → ∀ d, o.dst = some d → men id (look r d) = false)) ∧
  (∀ w' id' b', (w', id', b') ∈ effs → menB id b' = false ∧ (id' = id → w' = w ∨ (ops[w']?).bind (allocOf s) = some id)) := by
 unfold growOK at h
 rw [List.all_eq_true] at h
 have h1 := h (w, id, b) he
 simp only [hg, Bool.not_true, Bool.false_or, Bool.and_eq_true, List.all_eq_true] at h1
 refine ⟨fun i o hl hi' ho => ?_, fun w' id' b' he' => ?_⟩
 ·have h2 := h1.1 i (mem_grp.2 ⟨hl, hi'⟩)
  simp only [ho, Bool.and_eq_true] at h2
  refine ⟨fun x hx => ?_, fun hne d hd => ?_⟩
  ·have h3 := h2.1
   rw [Array.all_eq_true_iff_forall_mem] at h3
   simpa using h3 x hx
  ·have h3 := h2.2
   rw [beq_f hne, hd] at h3
   simpa using h3
 ·have h2 := h1.2 (w', id', b') he'
  simp only [Bool.or_eq_true, Bool.not_eq_true'] at h2
  refine ⟨h2.1, fun e => ?_⟩
  subst e
  rcases h2.2 with (h3 | h3) | h3
  ·rw [Nat.beq_refl] at h3; cases h3
  ·exact .inl (Nat.eq_of_beq_eq_true h3)
  ·exact .inr (beq_o.1 h3)
end Go.Gh
/- The ghost machine: a group of a region that draws its order: what the order of the text comes to. Conditions: none (lemmas alone). -/
namespace Go.Gh
theorem storeA_det {R : Type} {cx : Ctx} {H : Heap} {av : Operand → AV} {T : TypeId} {x v : Operand} {g : Nat → Blk → Option R} {r : R} (h : storeA cx H av T x v g = some r) :
  ∃ id b b0, (∃ p, av x = .ptr id p) ∧ hlook H id = some b0 ∧ g id b = some r ∧ Like b0 b ∧ ∀ (H' : Heap) (R' : Type) (g' : Nat → Blk → Option R'), hlook H' id = some b0 → storeA cx H' av T x v g' = g' id b := by
 unfold storeA at h
 split at h
 ·rename_i te hT
  split at h
  ·rename_i hsz
   split at h
   ·rename_i id p hav
    split at h
    ·rename_i a hl
     obtain ⟨z, h1, h2, h3⟩ := setA_det _ h
     refine ⟨id, _, _, ⟨p, hav⟩, hl, h1, ⟨h3, rfl⟩, fun H' R' g' hl' => ?_⟩
     unfold storeA
     simp only [hT, hav, hl']
     rw [if_pos hsz, h2]
    ·rename_i t xs hl
     split at h
     ·rename_i i p
      obtain ⟨hi, h⟩ := cond_det h
      split at h
      ·rename_i u y hvy
       obtain ⟨z, h1, h2⟩ := setT_det _ _ _ _ _ h
       refine ⟨id, _, _, ⟨_, hav⟩, hl, h1, ⟨rfl, by simp [rowB]⟩, fun H' R' g' hl' => ?_⟩
       unfold storeA
       simp only [hT, hav, hl', hvy]
       rw [hvy] at hsz
       rw [if_pos hsz, decide_eq_true hi, cond_true, h2]
      ·cases h
     ·cases h
    ·cases h
   ·cases h
  ·cases h
 ·cases h
def seen : Effs → (Nat → Bool) → Heap → Nat → Option Blk
 | [], _, H, id => hlook H id
 | (j, i, b) :: es, S, H, id => if S j = true ∧ i = id then some b else seen es S H id
theorem seen_congr {S S' : Nat → Bool} {H : Heap} {id : Nat} : ∀ {es : Effs}, (∀ j b, (j, id, b) ∈ es → S j = S' j) → seen es S H id = seen es S' H id
 | [], _ => rfl
 | (j, i, b) :: es, h => by
  simp only [seen]
  by_cases e : i = id
  ·subst e
   rw [h j b (by simp), seen_congr (es := es) (fun j b hj => h j b (by simp [hj]))]
  ·rw [if_neg (fun c => e c.2), if_neg (fun c => e c.2), seen_congr (es := es) (fun j b hj => h j b (by simp [hj]))]
theorem seen_none {S : Nat → Bool} {H : Heap} {id : Nat} : ∀ {es : Effs}, (∀ j b, (j, id, b) ∈ es → S j = false) → seen es S H id = hlook H id
 | [], _ => rfl
 | (j, i, b) :: es, h => by
  simp only [seen]
  rw [if_neg, seen_none (es := es) (fun j b hj => h j b (by simp [hj]))]
  rintro ⟨h1, rfl⟩
  rw [h j b (by simp)] at h1; cases h1
theorem demL_some {R α : Type} {a : Option R} {o : Option α} {k : α → Option R} {r : R} (h : demL a o k = some r) : a = some r ∧ ∀ v, o = some v → k v = some r := by
 cases o with
 | none => exact ⟨h, fun v hv => by cases hv⟩
 | some u =>
  simp only [demL, dem] at h
  split at h
  ·rename_i e
   exact ⟨h, fun v hv => by cases hv; rw [← e]; exact h⟩
  ·cases h
theorem allocOf_site {s : Cf} {o : Oper} {id : Nat} (h : allocOf s o = some id) : id = siteOf s o := by
 unfold allocOf at h
 split at h
 ·cases h; rfl
 ·cases h; rfl
 ·cases h; rfl
 ·cases h
theorem mem_opTmps {o : Oper} {t : Nat} (h : Operand.tmp t ∈ o.op.operands) : t ∈ opTmps o := by
 unfold opTmps
 exact List.mem_filterMap.2 ⟨.tmp t, by simpa using h, rfl⟩
def Srt (es : Effs) : Prop := es.Pairwise fun a b => b.1 < a.1
def lt (i : Nat) : Nat → Bool := fun j => decide (j < i)
theorem seen_append {S : Nat → Bool} {H : Heap} {id : Nat} {es : Effs} : ∀ {nw : Effs}, (∀ j i b, (j, i, b) ∈ nw → S j = false) → seen (nw ++ es) S H id = seen es S H id
 | [], _ => rfl
 | (j, i, b) :: nw, h => by
  simp only [List.cons_append, seen]
  rw [if_neg, seen_append (nw := nw) (fun j i b hj => h j i b (by simp [hj]))]
  rintro ⟨h1, _⟩
  rw [h j i b (by simp)] at h1; cases h1
def NotW (a : AV) (want : Bool) : Prop := (∃ b, a = .dat .bool b ∧ b ≠ want) ∨ a = .tup []
def hidAt (ops : Array Oper) (hi x : Nat) : Bool := (List.range' (x + 1) (hi - (x + 1))).any fun i => growsOn ops i x
def outA (h : Bool) : New → AV → AV
 | none, a => a
 | some _, a => hidA h a
def Told (cx : Ctx) (s : Cf) (ops : Array Oper) (lo hi : Nat) (om : Nat → Bool) (r0 r : Regs) (effs : Effs) (H0 : Heap) (x : Nat) : Prop := ∃ o, ops[x]? = some o ∧ ∃ rx : Regs,
 (∀ u, (∃ j oj, lo ≤ j ∧ j < x ∧ ops[j]? = some oj ∧ oj.dst = some u) → look rx u = look r u) ∧ (∀ u, (∀ j oj, lo ≤ j → j < x → ops[j]? = some oj → oj.dst ≠ some u) → look rx u = look r0 u) ∧
 ((∃ j want t, o.guard = some (j, want) ∧ (ops[j]?).bind (·.dst) = some t ∧ NotW (look rx t) want ∧ (∀ d, o.dst = some d → look r d = .tup []) ∧ (∀ id b, (x, id, b) ∉ effs)) ∨
  ((o.guard = none ∨ ∃ j want t, o.guard = some (j, want) ∧ (ops[j]?).bind (·.dst) = some t ∧ look rx t = .dat .bool want) ∧
   ∃ Hx, (∀ id, hlook Hx id = seen effs (lt x) H0 id) ∧
    ((isStore o.op = false ∧ isLk o.op = false ∧ ∃ a new, (∀ (H' : Heap) (R' : Type) (g' : AV → New → Option R'), Sees o.op (opA cx rx) Hx H' → opg cx H' (opA cx rx) (siteOf s o) o.op g' = g' a new) ∧ (∀ d, o.dst = some d → look r d = outA (hidAt ops hi x) new a) ∧
       (∀ b, new = some b → allocOf s o = some (siteOf s o) ∧ (x, siteOf s o, b) ∈ effs) ∧ (∀ id b, (x, id, b) ∈ effs → new = some b ∧ id = siteOf s o)) ∨
     (∃ T px v id b b0 p, o.op = .store T px v ∧ opA cx rx px = .ptr id p ∧ hlook Hx id = some b0 ∧ Like b0 b ∧ (∀ (H' : Heap) (R' : Type) (g' : Nat → Blk → Option R'), hlook H' id = some b0 → storeA cx H' (opA cx rx) T px v g' = g' id b) ∧
       (∀ d, o.dst = some d → look r d = .top) ∧ (x, id, b) ∈ effs ∧ (∀ id' b', (x, id', b') ∈ effs → id' = id ∧ b' = b)) ∨
     (∃ T px y h t z mm z' q, o.op = .lookup T px y true ∧ opA cx rx px = .hm h t z ∧ cx.memo h = some mm ∧ mm.M = T ∧ castT t (.struct mm.ts) z = some z' ∧ toDat Hx mm.key (opA cx rx y) = some q ∧
       (∀ d, o.dst = some d → look r d = lkA mm (om x) (mm.f z' q)) ∧ (∀ id b, (x, id, b) ∉ effs)) ∨
     (∃ j id u b b0 b1 oj, isStore o.op = false ∧ isLk o.op = false ∧ apBase o.op = some u ∧ befs ops x j = true ∧ ops[j]? = some oj ∧ isApp oj.op = true ∧ oj.dst = some u ∧ allocOf s oj = some id ∧ (j, id, b1) ∈ effs ∧ hlook Hx id = some b0 ∧ (∃ t xs, b = .row t xs false) ∧
       (∀ H' : Heap, hlook H' id = some b0 → Sees o.op (opA cx rx) Hx H' → opw cx H' (avO (opA cx rx) u id) (siteOf s o) o.op (fun a H => some (a, H)) = some (.row id, (id, b) :: purgeH id H')) ∧
       (∀ d, o.dst = some d → look r d = .row id) ∧ (x, id, b) ∈ effs ∧ (∀ id' b', (x, id', b') ∈ effs → id' = id ∧ b' = b)))))
theorem hlook_hset {H : Heap} {i j : Nat} {b0 b : Blk} (h : hlook H i = some b0) : hlook (hset H i b) j = if i = j then some b else hlook H j := by
 by_cases e : i = j
 ·subst e; rw [if_pos rfl]; exact hlook_hset_same h
 ·rw [if_neg e]; exact hlook_hset_other e
theorem growsOn_spec {ops : Array Oper} {i j u : Nat} {o : Oper} (ho : ops[i]? = some o) (hu : apBase o.op = some u) (h : growsOn ops i j = true) : ∃ oj, ops[j]? = some oj ∧ isApp oj.op = true ∧ oj.dst = some u := by
 unfold growsOn at h
 rw [ho] at h
 split at h
 ·rename_i o1 oj e1 e2
  cases e1
  cases hA : isApp oj.op with
  | false => rw [hA] at h; cases h
  | true =>
   rw [hA, cond_true, hu] at h
   split at h
   ·rename_i u1 d e3 e4
    cases e3
    exact ⟨oj, e2, hA, by rw [e4, Nat.eq_of_beq_eq_true h]⟩
   ·cases h
 ·cases h
theorem growE_spec {s : Cf} {ops : Array Oper} {effs : Effs} {i j id : Nat} {o : Oper} (ho : ops[i]? = some o) (h : growE s ops effs i o.op = some (j, id)) :
  ∃ u oj b1, apBase o.op = some u ∧ befs ops i j = true ∧ ops[j]? = some oj ∧ isApp oj.op = true ∧ oj.dst = some u ∧ allocOf s oj = some id ∧ (j, id, b1) ∈ effs := by
 unfold growE at h
 cases hu : apBase o.op with
 | none => rw [hu] at h; cases h
 | some u =>
  rw [hu] at h
  simp only at h
  obtain ⟨e, he, h1⟩ := List.exists_of_findSome?_eq_some h
  obtain ⟨j', id', b1⟩ := e
  simp only at h1
  cases hg : growsOn ops i j' with
  | false => rw [hg] at h1; cases h1
  | true =>
   rw [hg, cond_true] at h1
   cases hb : befs ops i j' with
   | false => rw [hb] at h1; cases h1
   | true =>
    rw [hb, cond_true] at h1
    split at h1
    ·rename_i a ha
     cases hq : Nat.beq a id' with
     | false => rw [hq] at h1; cases h1
     | true =>
      rw [hq, cond_true] at h1
      cases h1
      obtain ⟨oj, q1, q2, q3⟩ := growsOn_spec ho hu hg
      refine ⟨u, oj, b1, rfl, hb, q1, q2, q3, ?_, he⟩
      rw [q1] at ha
      rw [Nat.eq_of_beq_eq_true hq] at ha
      exact ha
    ·cases h1
section
variable {cx : Ctx} {s : Cf} {ops : Array Oper}
theorem runGrp_told {R : Type} {n lo hi : Nat} (om : Nat → Bool) (hd : DrawOK ops n lo hi) (hn : s.fr.n = n) {H0 : Heap} {r0 : Regs} {k : Regs → Heap → Effs → Option R} {res : R} : ∀ (c i : Nat) (r : Regs) (H : Heap) (effs : Effs), lo ≤ i → i + c = hi → (∀ u, (∀ x o, lo ≤ x → x < i → ops[x]? = some o → o.dst ≠ some u) → look r u = look r0 u) →
  (∀ j id b, (j, id, b) ∈ effs → j < i) → (∀ id, hlook H id = seen effs (lt i) H0 id) → runGrp cx s ops (List.range' i c) r H effs k = some res →
  ∃ r2 H2 nw, k r2 H2 (nw ++ effs) = some res ∧ (∀ u, (∀ x o, i ≤ x → x < hi → ops[x]? = some o → o.dst ≠ some u) → look r2 u = look r u) ∧ ((∀ j id b, (j, id, b) ∈ nw → i ≤ j ∧ j < hi) ∧ Srt nw) ∧
   (∀ id, hlook H2 id = seen (nw ++ effs) (lt hi) H0 id) ∧ (∀ x, i ≤ x → x < hi → Told cx s ops lo hi om r0 r2 (nw ++ effs) H0 x)
 | 0, i, r, H, effs, hl, hi', hr0, he, hH, h => by
  simp only [List.range'_zero, runGrp] at h
  have : i = hi := by omega
  subst this
  exact ⟨r, H, [], h, fun _ _ => rfl, ⟨(fun j id b hj => by simp at hj), .nil⟩, hH, fun x h1 h2 => by omega⟩
 | c + 1, i, r, H, effs, hl, hi', hr0, he, hH, h => by
  rw [List.range'_succ] at h
  simp only [runGrp] at h
  have hlt : i < hi := by omega
  obtain ⟨o, ho⟩ := hd.op i hl hlt
  rw [ho] at h
  simp only at h
  have hold : ∀ (es : Effs), (∀ j id b, (j, id, b) ∈ es → j < i) → ∀ id, seen es (lt (i + 1)) H0 id = seen es (lt i) H0 id := by
   intro es hes id
   refine seen_congr (fun j b hj => ?_)
   have := hes j id b hj
   simp [lt]; omega
  have rest : ∀ (r1 : Regs) (a : AV) (H1 : Heap) (mine : Effs), (∀ u, look r1 u = look r u) → (∀ j id b, (j, id, b) ∈ mine → j = i) → (∀ id, hlook H1 id = seen (mine ++ effs) (lt (i + 1)) H0 id) →
    runGrp cx s ops (List.range' (i + 1) c) (putR n r1 o.dst a) H1 (mine ++ effs) k = some res →
    ∃ r2 H2 nw, k r2 H2 (nw ++ (mine ++ effs)) = some res ∧ (∀ u, (∀ x o, i ≤ x → x < hi → ops[x]? = some o → o.dst ≠ some u) → look r2 u = look r u) ∧ ((∀ j id b, (j, id, b) ∈ nw → i + 1 ≤ j ∧ j < hi) ∧ Srt nw) ∧
     (∀ id, hlook H2 id = seen (nw ++ (mine ++ effs)) (lt hi) H0 id) ∧ (∀ x, i + 1 ≤ x → x < hi → Told cx s ops lo hi om r0 r2 (nw ++ (mine ++ effs)) H0 x) ∧ (∀ d, o.dst = some d → look r2 d = a) := by
   intro r1 a H1 mine hr1 hmine hH1 hrun
   obtain ⟨r2, H2, nw, q1, q2, q3, q4, q5⟩ := runGrp_told om hd hn c (i + 1) (putR n r1 o.dst a) H1 (mine ++ effs) (by omega) (by omega) (fun u hu => by
    have h5 := hu i o hl (by omega) ho
    rw [← hr0 u (fun x o' h1 h2 h3 => hu x o' h1 (by omega) h3)]
    cases hq : o.dst with
    | none => simp only [putR]; exact hr1 u
    | some d =>
     simp only [putR]
     have hne : d ≠ u := fun e => h5 (by rw [hq, e])
     cases Nat.blt d n with
     | true => simp only [cond_true, look, if_neg hne]; exact hr1 u
     | false => exact hr1 u) (fun j id b hj => by
    rcases List.mem_append.1 hj with hj | hj
    ·have := hmine j id b hj; omega
    ·have := he j id b hj; omega) hH1 hrun
   refine ⟨r2, H2, nw, q1, fun u hu => ?_, q3, q4, q5, fun d hdd => ?_⟩
   ·rw [q2 u (fun x o' h1 h2 h3 => hu x o' (by omega) h2 h3)]
    have h5 := hu i o (Nat.le_refl _) hlt ho
    cases hq : o.dst with
    | none => simp only [putR]; exact hr1 u
    | some d =>
     simp only [putR]
     have hne : d ≠ u := fun e => h5 (by rw [hq, e])
     cases Nat.blt d n with
     | true => simp only [cond_true, look, if_neg hne]; exact hr1 u
     | false => exact hr1 u
   ·rw [q2 d (fun x o' h1 h2 h3 => hd.apart x i o' o d (by omega) h2 hl hlt (by omega) h3 ho hdd)]
    simp only [hdd, putR]
    rw [blt_t (hd.lt i o d hl hlt ho hdd)]
    simp [look]
  have reads : ∀ (r1 r' : Regs), (∀ u, look r1 u = look r u) → (∀ u, (∀ x o, i ≤ x → x < hi → ops[x]? = some o → o.dst ≠ some u) → look r' u = look r u) →
    (∀ u, (∃ j oj, lo ≤ j ∧ j < i ∧ ops[j]? = some oj ∧ oj.dst = some u) → look r1 u = look r' u) ∧ (∀ u, (∀ j oj, lo ≤ j → j < i → ops[j]? = some oj → oj.dst ≠ some u) → look r1 u = look r0 u) := by
   intro r1 r' hr1 hr'
   refine ⟨fun u ⟨j, oj, h1, h2, h3, h4⟩ => ?_, fun u hu => by rw [hr1 u]; exact hr0 u hu⟩
   rw [hr1 u, hr' u (fun x o' h5 h6 h7 => hd.apart x j o' oj u (by omega) h6 h1 (by omega) (by omega) h7 h3 h4)]
  have nomine : ∀ (nw : Effs), (∀ j id b, (j, id, b) ∈ nw → i + 1 ≤ j ∧ j < hi) → ∀ (mine : Effs) id b, (i, id, b) ∈ nw ++ (mine ++ effs) → (i, id, b) ∈ mine := by
   intro nw hnw mine id b hm
   rcases List.mem_append.1 hm with hm | hm
   ·have := (hnw i id b hm).1; omega
   ·rcases List.mem_append.1 hm with hm | hm
    ·exact hm
    ·have := he i id b hm; omega
  have seenHx : ∀ (nw : Effs), (∀ j id b, (j, id, b) ∈ nw → i + 1 ≤ j ∧ j < hi) → ∀ (mine : Effs), (∀ j id b, (j, id, b) ∈ mine → j = i) → ∀ id, hlook H id = seen (nw ++ (mine ++ effs)) (lt i) H0 id := by
   intro nw hnw mine hmine id
   rw [seen_append (fun j i' b hj => by have := (hnw j i' b hj).1; simp [lt]; omega), seen_append (fun j i' b hj => by have := hmine j i' b hj; simp [lt]; omega)]
   exact hH id
  have goal_of : ∀ (mine : Effs) (r2 : Regs) (H2 : Heap) (nw : Effs), (∀ j id b, (j, id, b) ∈ mine → j = i) → k r2 H2 (nw ++ (mine ++ effs)) = some res → (∀ u, (∀ x o, i ≤ x → x < hi → ops[x]? = some o → o.dst ≠ some u) → look r2 u = look r u) → (∀ j id b, (j, id, b) ∈ nw → i + 1 ≤ j ∧ j < hi) → Srt nw → Srt mine →
    (∀ id, hlook H2 id = seen (nw ++ (mine ++ effs)) (lt hi) H0 id) → (∀ x, i + 1 ≤ x → x < hi → Told cx s ops lo hi om r0 r2 (nw ++ (mine ++ effs)) H0 x) → Told cx s ops lo hi om r0 r2 (nw ++ (mine ++ effs)) H0 i →
    ∃ r2 H2 nw, k r2 H2 (nw ++ effs) = some res ∧ (∀ u, (∀ x o, i ≤ x → x < hi → ops[x]? = some o → o.dst ≠ some u) → look r2 u = look r u) ∧ ((∀ j id b, (j, id, b) ∈ nw → i ≤ j ∧ j < hi) ∧ Srt nw) ∧
     (∀ id, hlook H2 id = seen (nw ++ effs) (lt hi) H0 id) ∧ (∀ x, i ≤ x → x < hi → Told cx s ops lo hi om r0 r2 (nw ++ effs) H0 x) := by
   intro mine r2 H2 nw hmine q1 q2 q3 qs qm q4 q5 q6
   refine ⟨r2, H2, nw ++ mine, by rw [List.append_assoc]; exact q1, q2, ⟨fun j id b hj => ?_, ?_⟩, by rw [List.append_assoc]; exact q4, fun x h1 h2 => ?_⟩
   ·rcases List.mem_append.1 hj with hj | hj
    ·have := q3 j id b hj; omega
    ·have := hmine j id b hj; omega
   ·refine List.pairwise_append.2 ⟨qs, qm, fun a ha b hb => ?_⟩
    have h1 := (q3 a.1 a.2.1 a.2.2 ha).1
    have h2 := hmine b.1 b.2.1 b.2.2 hb
    omega
   ·rw [List.append_assoc]
    by_cases e : x = i
    ·subst e; exact q6
    ·exact q5 x (by omega) h2
  have skip : ∀ (r1 : Regs) (j t : Nat) (want : Bool), (∀ u, look r1 u = look r u) → o.guard = some (j, want) → (ops[j]?).bind (·.dst) = some t → NotW (look r t) want → runGrp cx s ops (List.range' (i + 1) c) (putR s.fr.n r1 o.dst (.tup [])) H effs k = some res →
    ∃ r2 H2 nw, k r2 H2 (nw ++ effs) = some res ∧ (∀ u, (∀ x o, i ≤ x → x < hi → ops[x]? = some o → o.dst ≠ some u) → look r2 u = look r u) ∧ ((∀ j id b, (j, id, b) ∈ nw → i ≤ j ∧ j < hi) ∧ Srt nw) ∧
     (∀ id, hlook H2 id = seen (nw ++ effs) (lt hi) H0 id) ∧ (∀ x, i ≤ x → x < hi → Told cx s ops lo hi om r0 r2 (nw ++ effs) H0 x) := by
   intro r1 j t want hr1 hg ht hlk hrun
   rw [hn] at hrun
   obtain ⟨r2, H2, nw, q1, q2, ⟨q3, qs⟩, q4, q5, q6⟩ := rest r1 (.tup []) H [] hr1 (fun j id b hj => by simp at hj) (fun id => by rw [List.nil_append, hold effs he id]; exact hH id) hrun
   refine goal_of [] r2 H2 nw (fun j id b hj => by simp at hj) q1 q2 q3 qs (by simp [Srt]) q4 q5 ⟨o, ho, r1, (reads r1 r2 hr1 q2).1, (reads r1 r2 hr1 q2).2, .inl ⟨j, want, t, hg, ht, by rw [hr1 t]; exact hlk, q6, fun id b hm => ?_⟩⟩
   ·have := nomine nw q3 [] id b hm
    simp at this
  have run : ∀ (r1 : Regs), (∀ u, look r1 u = look r u) → (o.guard = none ∨ ∃ j want t, o.guard = some (j, want) ∧ (ops[j]?).bind (·.dst) = some t ∧ look r t = .dat .bool want) →
    (match o.op with
    | .store T x v => storeA cx H (opA cx r1) T x v (fun id b => runGrp cx s ops (List.range' (i + 1) c) (putR s.fr.n r1 o.dst .top) (hset H id b) ((i, id, b) :: effs) k)
    | .lookup T x y true => (match opA cx r1 x with
      | .hm h t z => (match cx.memo h with
        | some mm => if mm.M = T then (match castT t (.struct mm.ts) z, toDat H mm.key (opA cx r1 y) with
          | some z, some q => demL (runGrp cx s ops (List.range' (i + 1) c) (putR s.fr.n r1 o.dst (lkA mm false none)) H effs k) (mm.f z q) (fun v => runGrp cx s ops (List.range' (i + 1) c) (putR s.fr.n r1 o.dst (lkA mm true (some v))) H effs k)
          | _, _ => none) else none
        | none => none)
      | _ => none)
    | op => (match growE s ops effs i op with
      | some (_, id) => growA cx H (opA cx r1) (siteOf s o) id op (fun b => runGrp cx s ops (List.range' (i + 1) c) (putR s.fr.n r1 o.dst (.row id)) (hset H id b) ((i, id, b) :: effs) k)
      | none => cond (isFreeG cx (opA cx r1) op)
        (opg cx H (opA cx r1) (siteOf s o) op (fun a new => match new with
          | none => runGrp cx s ops (List.range' (i + 1) c) (putR s.fr.n r1 o.dst a) H effs k
          | some b => cond (allocOf s o).isSome (runGrp cx s ops (List.range' (i + 1) c) (putR s.fr.n r1 o.dst (hidA ((List.range' (i + 1) c).any fun i' => growsOn ops i' i) a)) ((siteOf s o, b) :: H) ((i, siteOf s o, b) :: effs) k) none)) none)) = some res →
    ∃ r2 H2 nw, k r2 H2 (nw ++ effs) = some res ∧ (∀ u, (∀ x o, i ≤ x → x < hi → ops[x]? = some o → o.dst ≠ some u) → look r2 u = look r u) ∧ ((∀ j id b, (j, id, b) ∈ nw → i ≤ j ∧ j < hi) ∧ Srt nw) ∧
     (∀ id, hlook H2 id = seen (nw ++ effs) (lt hi) H0 id) ∧ (∀ x, i ≤ x → x < hi → Told cx s ops lo hi om r0 r2 (nw ++ effs) H0 x) := by
   intro r1 hr1 hgd hrun
   have hguard : (o.guard = none ∨ ∃ j want t, o.guard = some (j, want) ∧ (ops[j]?).bind (·.dst) = some t ∧ look r1 t = .dat .bool want) := by
    rcases hgd with h3 | ⟨j, want, t, h3, h4, h5⟩
    ·exact .inl h3
    ·exact .inr ⟨j, want, t, h3, h4, by rw [hr1 t]; exact h5⟩
   have seen_mine : ∀ (id : Nat) (b : Blk) (id' : Nat), seen ([(i, id, b)] ++ effs) (lt (i + 1)) H0 id' = if id = id' then some b else hlook H id' := by
    intro id b id'
    simp only [List.cons_append, List.nil_append, seen]
    rw [hold effs he id', hH id']
    by_cases e : id = id'
    ·rw [if_pos ⟨by simp [lt], e⟩, if_pos e]
    ·rw [if_neg (fun c => e c.2), if_neg e]
   have mine1 : ∀ (id : Nat) (b : Blk), ∀ j id' b', (j, id', b') ∈ [(i, id, b)] → j = i := by
    intro id b j id' b' hj; simp at hj; exact hj.1
   split at hrun
   ·rename_i T px v hop
    obtain ⟨id, b, b0, ⟨p, hp⟩, hb0, h1, hlike, h2⟩ := storeA_det hrun
    rw [hn] at h1
    obtain ⟨r2, H2, nw, q1, q2, ⟨q3, qs⟩, q4, q5, q6⟩ := rest r1 .top (hset H id b) [(i, id, b)] hr1 (mine1 id b) (fun id' => by rw [seen_mine, hlook_hset hb0]) h1
    refine goal_of [(i, id, b)] r2 H2 nw (mine1 id b) q1 q2 q3 qs (by simp [Srt]) q4 q5 ⟨o, ho, r1, (reads r1 r2 hr1 q2).1, (reads r1 r2 hr1 q2).2, .inr ⟨hguard, H, seenHx nw q3 _ (mine1 id b), .inr (.inl ⟨T, px, v, id, b, b0, p, hop, hp, hb0, hlike, h2, q6, by simp, fun id' b' hm => ?_⟩)⟩⟩
    ·have := nomine nw q3 [(i, id, b)] id' b' hm
     simpa using this
   ·rename_i T px y hop
    split at hrun
    ·rename_i h t z hav
     split at hrun
     ·rename_i mm hmm
      split at hrun
      ·rename_i hM
       split at hrun
       ·rename_i z' q hz hq
        obtain ⟨d1, d2⟩ := demL_some hrun
        have hrun2 : runGrp cx s ops (List.range' (i + 1) c) (putR s.fr.n r1 o.dst (lkA mm (om i) (mm.f z' q))) H effs k = some res := by
         cases ho' : om i with
         | false => exact d1
         | true =>
          cases hf : mm.f z' q with
          | none => exact d1
          | some v => exact d2 v hf
        rw [hn] at hrun2
        obtain ⟨r2, H2, nw, q1, q2, ⟨q3, qs⟩, q4, q5, q6⟩ := rest r1 (lkA mm (om i) (mm.f z' q)) H [] hr1 (fun j id b hj => by simp at hj) (fun id => by rw [List.nil_append, hold effs he id]; exact hH id) hrun2
        refine goal_of [] r2 H2 nw (fun j id b hj => by simp at hj) q1 q2 q3 qs (by simp [Srt]) q4 q5 ⟨o, ho, r1, (reads r1 r2 hr1 q2).1, (reads r1 r2 hr1 q2).2, .inr ⟨hguard, H, seenHx nw q3 [] (fun j id b hj => by simp at hj), .inr (.inr (.inl ⟨T, px, y, h, t, z, mm, z', q, hop, hav, hmm, hM, hz, hq, q6, fun id b hm => ?_⟩))⟩⟩
        have := nomine nw q3 [] id b hm
        simp at this
       ·cases hrun
      ·cases hrun
     ·cases hrun
    ·cases hrun
   ·rename_i hns hnl
    have hst0 : isStore o.op = false := by
     cases hop : o.op <;> first | rfl | exact absurd hop (hns _ _ _)
    have hlk0 : isLk o.op = false := by
     cases hop : o.op with
     | lookup T x y b =>
      cases b with
      | true => exact absurd hop (hnl _ _ _)
      | false => rw [hop] at hrun; simp [growE, apBase, isFreeG, isFree] at hrun
     | _ => rfl
    split at hrun
    ·rename_i j id hge
     obtain ⟨u, oj, b1, g1, g2, g3, g4, g5, g6, g7⟩ := growE_spec ho hge
     obtain ⟨b, b0, hb0, h1, hrow, h2⟩ := growA_det g1 hrun
     rw [hn] at h1
     obtain ⟨r2, H2, nw, q1, q2, ⟨q3, qs⟩, q4, q5, q6⟩ := rest r1 (.row id) (hset H id b) [(i, id, b)] hr1 (mine1 id b) (fun id' => by rw [seen_mine, hlook_hset hb0]) h1
     refine goal_of [(i, id, b)] r2 H2 nw (mine1 id b) q1 q2 q3 qs (by simp [Srt]) q4 q5 ⟨o, ho, r1, (reads r1 r2 hr1 q2).1, (reads r1 r2 hr1 q2).2, .inr ⟨hguard, H, seenHx nw q3 _ (mine1 id b), .inr (.inr (.inr ⟨j, id, u, b, b0, b1, oj, hst0, hlk0, g1, g2, g3, g4, g5, g6, by simp [g7], hb0, hrow, h2, q6, by simp, fun id' b' hm => ?_⟩))⟩⟩
     have := nomine nw q3 [(i, id, b)] id' b' hm
     simpa using this
    cases hf : isFreeG cx (opA cx r1) o.op with
    | false => rw [hf] at hrun; cases hrun
    | true =>
     rw [hf, cond_true] at hrun
     obtain ⟨a, new, h1, h2⟩ := opg_det hrun
     cases new with
     | none =>
      simp only at h1
      rw [hn] at h1
      obtain ⟨r2, H2, nw, q1, q2, ⟨q3, qs⟩, q4, q5, q6⟩ := rest r1 a H [] hr1 (fun j id b hj => by simp at hj) (fun id => by rw [List.nil_append, hold effs he id]; exact hH id) h1
      refine goal_of [] r2 H2 nw (fun j id b hj => by simp at hj) q1 q2 q3 qs (by simp [Srt]) q4 q5 ⟨o, ho, r1, (reads r1 r2 hr1 q2).1, (reads r1 r2 hr1 q2).2, .inr ⟨hguard, H, seenHx nw q3 [] (fun j id b hj => by simp at hj), .inl ⟨hst0, hlk0, a, none, h2, q6, (fun b hb => by cases hb), fun id b hm => ?_⟩⟩⟩
      have := nomine nw q3 [] id b hm
      simp at this
     | some b =>
      simp only at h1
      cases hal : (allocOf s o).isSome with
      | false => rw [hal] at h1; cases h1
      | true =>
       rw [hal, cond_true, hn] at h1
       obtain ⟨id, hid⟩ := Option.isSome_iff_exists.1 hal
       have hsid := allocOf_site hid
       subst hsid
       obtain ⟨r2, H2, nw, q1, q2, ⟨q3, qs⟩, q4, q5, q6⟩ := rest r1 _ ((siteOf s o, b) :: H) [(i, siteOf s o, b)] hr1 (mine1 _ b) (fun id' => by rw [seen_mine]; rfl) h1
       have hhid : hidAt ops hi i = (List.range' (i + 1) c).any fun i' => growsOn ops i' i := by unfold hidAt; rw [show hi - (i + 1) = c by omega]
       refine goal_of [(i, siteOf s o, b)] r2 H2 nw (mine1 _ b) q1 q2 q3 qs (by simp [Srt]) q4 q5 ⟨o, ho, r1, (reads r1 r2 hr1 q2).1, (reads r1 r2 hr1 q2).2, .inr ⟨hguard, H, seenHx nw q3 _ (mine1 _ b), .inl ⟨hst0, hlk0, a, some b, h2, fun d hd => by rw [q6 d hd, outA, hhid], fun b' hb' => ?_, fun id' b' hm => ?_⟩⟩⟩
       ·cases hb'
        exact ⟨hid, by simp⟩
       ·have := nomine nw q3 [(i, siteOf s o, b)] id' b' hm
        simp only [List.mem_singleton, Prod.mk.injEq, true_and] at this
        exact ⟨by rw [this.2], this.1⟩
  split at h
  ·rename_i hg
   exact run r (fun _ => rfl) (.inl hg) h
  ·rename_i j want hg
   split at h
   ·cases h
   ·rename_i t ht
    split at h
    ·rename_i b hlk
     cases b with
     | true =>
      cases want with
      | true => simp only [cond_true] at h; exact run _ (fun u => look_same hlk) (.inr ⟨j, true, t, hg, ht, hlk⟩) h
      | false => simp only [cond_true, cond_false] at h; exact skip _ j t false (fun u => look_same hlk) hg ht (.inl ⟨true, hlk, by simp⟩) h
     | false =>
      cases want with
      | true => simp only [cond_true, cond_false] at h; exact skip _ j t true (fun u => look_same hlk) hg ht (.inl ⟨false, hlk, by simp⟩) h
      | false => simp only [cond_false] at h; exact run _ (fun u => look_same hlk) (.inr ⟨j, false, t, hg, ht, hlk⟩) h
    ·rename_i hlk
     exact skip r j t want (fun _ => rfl) hg ht (.inr hlk) h
    ·cases h
end
end Go.Gh
/- The ghost machine: a region that draws its order: striking numbers. Conditions: none (lemmas alone). -/
namespace Go.Gh
mutual
theorem purge_id (i : Nat) : (a : AV) → men i a = false → purgeA i a = a
 | .agg fs, h => by simp only [men] at h; simp only [purgeA, purgeL_id i fs h]
 | .arrL fs, h => by simp only [men] at h; simp only [purgeA, purgeL_id i fs h]
 | .tup fs, h => by simp only [men] at h; simp only [purgeA, purgeL_id i fs h]
 | .ptr k p, h => by simp only [men, beq_eq_false_iff_ne] at h; simp only [purgeA, if_neg h]
 | .row k, h => by simp only [men, beq_eq_false_iff_ne] at h; simp only [purgeA, if_neg h]
 | .sub k _ _, h => by simp only [men, beq_eq_false_iff_ne] at h; simp only [purgeA, if_neg h]
 | .yld k, h => by simp only [men, beq_eq_false_iff_ne] at h; simp only [purgeA, if_neg h]
 | .fn f fs cs, h => by simp only [men, Bool.or_eq_false_iff] at h; simp only [purgeA, purgeL_id i fs h.1, purgeL_id i cs h.2]
 | .dat _ _, _ | .cptr _ _, _ | .hp _ _ _, _ | .full _ _, _ | .hmp _ _ _, _ | .hm _ _ _, _ | .nilsl, _ | .nilp, _ | .nilf, _ | .nilm, _ | .any, _ | .top, _ => by simp only [purgeA]
theorem purgeL_id (i : Nat) : (as : List AV) → menL i as = false → purgeL i as = as
 | [], _ => rfl
 | a :: as, h => by simp only [menL, Bool.or_eq_false_iff] at h; simp only [purgeL, purge_id i a h.1, purgeL_id i as h.2]
end
theorem men_purge_same (i : Nat) (a : AV) : men i (purgeA i a) = false := by
 cases h : men i (purgeA i a) with
 | false => rfl
 | true => exact absurd rfl (men_purge i a i h).1
theorem men_purge_keep {i j : Nat} {a : AV} (h : men j a = false) : men j (purgeA i a) = false := by
 cases hq : men j (purgeA i a) with
 | false => rfl
 | true => rw [(men_purge i a j hq).2] at h; cases h
def menR' (id : Nat) (r : Regs) : Bool := r.any fun x => men id x.2
theorem purgeR_id {i : Nat} : ∀ {r : Regs}, menR' i r = false → purgeR i r = r
 | [], _ => rfl
 | (t, a) :: r, h => by
  simp only [menR', List.any_cons, Bool.or_eq_false_iff] at h
  simp only [purgeR, purge_id i a h.1]
  rw [purgeR_id (by simpa [menR'] using h.2)]
theorem menR_purge_same {i : Nat} : ∀ {r : Regs}, menR' i (purgeR i r) = false
 | [] => rfl
 | (t, a) :: r => by
  have := menR_purge_same (i := i) (r := r)
  simp only [menR', purgeR, List.any_cons, Bool.or_eq_false_iff] at this ⊢
  exact ⟨men_purge_same i a, this⟩
theorem menR_purge_keep {i j : Nat} : ∀ {r : Regs}, menR' j r = false → menR' j (purgeR i r) = false
 | [], _ => rfl
 | (t, a) :: r, h => by
  simp only [menR', List.any_cons, Bool.or_eq_false_iff] at h
  have := menR_purge_keep (i := i) (j := j) (r := r) (by simpa [menR'] using h.2)
  simp only [menR', purgeR, List.any_cons, Bool.or_eq_false_iff] at this ⊢
  exact ⟨men_purge_keep h.1, this⟩
theorem look_men {i t : Nat} : ∀ {r : Regs}, menR' i r = false → men i (look r t) = false
 | [], _ => rfl
 | (u, a) :: r, h => by
  simp only [menR', List.any_cons, Bool.or_eq_false_iff] at h
  simp only [look]
  split
  ·exact h.1
  ·exact look_men (by simpa [menR'] using h.2)
theorem purgeB_id {i : Nat} {b : Blk} (h : menB i b = false) : purgeB i b = b := by
 cases b with
 | box a f => simp only [menB] at h; simp only [purgeB, purge_id i a h]
 | loop x jmp y fn n r ps p q d => simp only [menB] at h; simp only [purgeB]; rw [purgeR_id h]
 | _ => rfl
theorem menB_purge_same {i : Nat} {b : Blk} : menB i (purgeB i b) = false := by
 cases b with
 | box a f => exact men_purge_same i a
 | loop x jmp y fn n r ps p q d => exact menR_purge_same
 | _ => rfl
theorem menB_purge_keep {i j : Nat} {b : Blk} (h : menB j b = false) : menB j (purgeB i b) = false := by
 cases b with
 | box a f => exact men_purge_keep h
 | loop x jmp y fn n r ps p q d => exact menR_purge_keep h
 | _ => rfl
structure NoMen (id : Nat) (s : Cf) : Prop where
 fr : menR' id s.fr.regs = false
 callers : ∀ f ∈ s.callers, menR' id f.regs = false
 heap : ∀ j b, hlook s.heap j = some b → menB id b = false
 none : hlook s.heap id = none
theorem NoMen.purged (id : Nat) (s : Cf) : NoMen id (purgeS id s) := by
 refine ⟨menR_purge_same, fun f hf => ?_, fun j b hb => ?_, hlook_purgeH_same⟩
 ·obtain ⟨g, _, rfl⟩ := List.mem_map.1 hf
  exact menR_purge_same
 ·by_cases e : id = j
  ·subst e
   rw [show (purgeS id s).heap = purgeH id s.heap from rfl, hlook_purgeH_same] at hb
   cases hb
  ·rw [show (purgeS id s).heap = purgeH id s.heap from rfl, hlook_purgeH_other e] at hb
   cases hq : hlook s.heap j with
   | none => rw [hq] at hb; cases hb
   | some b0 => rw [hq] at hb; cases hb; exact menB_purge_same
theorem NoMen.keep {id j : Nat} {s : Cf} (h : NoMen id s) : NoMen id (purgeS j s) := by
 refine ⟨menR_purge_keep h.fr, fun f hf => ?_, fun i b hb => ?_, ?_⟩
 ·obtain ⟨g, hg, rfl⟩ := List.mem_map.1 hf
  exact menR_purge_keep (h.callers g hg)
 ·by_cases e : j = i
  ·subst e
   rw [show (purgeS j s).heap = purgeH j s.heap from rfl, hlook_purgeH_same] at hb
   cases hb
  ·rw [show (purgeS j s).heap = purgeH j s.heap from rfl, hlook_purgeH_other e] at hb
   cases hq : hlook s.heap i with
   | none => rw [hq] at hb; cases hb
   | some b0 => rw [hq] at hb; cases hb; exact menB_purge_keep (h.heap i b0 hq)
 ·by_cases e : j = id
  ·subst e; exact hlook_purgeH_same
  ·rw [show (purgeS j s).heap = purgeH j s.heap from rfl, hlook_purgeH_other e, h.none]; rfl
theorem usesH_purge {id j : Nat} : ∀ {H : Heap}, usesH id H = false → usesH id (purgeH j H) = false
 | [], _ => rfl
 | (i, b) :: H, h => by
  simp only [usesH, List.any_cons, Bool.or_eq_false_iff] at h
  have ih := usesH_purge (id := id) (j := j) (H := H) (by simpa [usesH] using h.2)
  simp only [purgeH]
  split
  ·exact ih
  ·simp only [usesH, List.any_cons, Bool.or_eq_false_iff] at ih ⊢
   refine ⟨?_, ih⟩
   have h1 := h.1
   cases b <;> exact h1
theorem usesS_purge {id j : Nat} {s : Cf} (h : usesS id s = false) : usesS id (purgeS j s) = false := by
 simp only [usesS, Bool.or_eq_false_iff] at h ⊢
 refine ⟨⟨⟨h.1.1.1, ?_⟩, usesH_purge h.1.2⟩, h.2⟩
 rw [show (purgeS j s).callers = s.callers.map (purgeF j) from rfl, List.any_map]
 exact h.1.1.2
section
variable {B : Base} {E : Env} {s : Cf} {F : Frame} {Fs : List Frame}
theorem Sim.purge {id : Nat} (hS : Sim B E s F Fs) (hu : usesS id s = false) : ∃ E', Sim B E' (purgeS id s) F Fs ∧ E'.m.w = E.m.w := by
 have hu' := hu
 simp only [usesS, Bool.or_eq_false_iff] at hu'
 obtain ⟨hB, hb, _⟩ := nil_row (E := E) (id := id) (t := .bool) (l := true) hS.ok none (.row .bool [] true) rfl
 have hn : NoLoop E id := noLoop_of hS.heap hu'.1.2
 have hs1 := hS.ok.bind hB hn (usesS_low hS.base hu) hb
 have hless : HLess (purgeH id E.H) (E.bind B id (.row .bool [] true) E.m.w none).H := by
  intro j b hj
  by_cases e : id = j
  ·subst e; rw [hlook_purgeH_same] at hj; cases hj
  ·refine ⟨b, ?_, .refl _⟩
   rw [hlook_bind_other e, ← hlook_purgeH_other e]
   exact hj
 have hK := less_keeps hs1 hless
 refine ⟨_, ⟨?_, hs1.less hless, (hS.fr.bind hS.ok hB hu'.1.1.1).keeps hK, (callers_purge hS.ok hB hu'.1.1.2 hS.callers).mono fun _ _ c => FrOK.keeps hK c, hS.nd, hS.base⟩, rfl⟩
 show purgeH id s.heap = purgeH id E.H
 rw [hS.heap]
theorem Sim.purgeAll : ∀ {ids : List Nat} {E : Env} {s : Cf}, Sim B E s F Fs → (∀ id ∈ ids, usesS id s = false) → ∃ E', Sim B E' (purgeAll s ids) F Fs ∧ E'.m.w = E.m.w ∧ (∀ id ∈ ids, NoMen id (Gh.purgeAll s ids)) ∧ (∀ id, NoMen id s → NoMen id (Gh.purgeAll s ids)) ∧ (∀ id, usesS id s = false → usesS id (Gh.purgeAll s ids) = false)
 | [], E, s, hS, _ => ⟨E, hS, rfl, fun id h => by simp at h, fun _ h => h, fun _ h => h⟩
 | id :: ids, E, s, hS, hu => by
  obtain ⟨E1, h1, h2⟩ := hS.purge (hu id (by simp))
  obtain ⟨E2, h3, h4, h5, h6, h7⟩ := Sim.purgeAll (ids := ids) h1 (fun j hj => usesS_purge (hu j (by simp [hj])))
  refine ⟨E2, h3, by rw [h4, h2], fun j hj => ?_, fun j hj => h6 j hj.keep, fun j hj => h7 j (usesS_purge hj)⟩
  rcases List.mem_cons.1 hj with rfl | hj
  ·exact h6 _ (NoMen.purged _ _)
  ·exact h5 j hj
end
theorem purgeAll_same : ∀ (ids : List Nat) (s : Cf), (purgeAll s ids).fr.n = s.fr.n ∧ (purgeAll s ids).fr.fn = s.fr.fn ∧ (purgeAll s ids).callers.length = s.callers.length ∧ (purgeAll s ids).fr.todo = s.fr.todo
 | [], s => ⟨rfl, rfl, rfl, rfl⟩
 | id :: ids, s => by
  obtain ⟨h1, h2, h3, h4⟩ := purgeAll_same ids (purgeS id s)
  exact ⟨h1, h2, by rw [purgeAll, h3]; simp [purgeS], h4⟩
theorem purgeAll_base : ∀ (ids : List Nat) (s : Cf), (purgeAll s ids).base = s.base
 | [], _ => rfl
 | id :: ids, s => purgeAll_base ids (purgeS id s)
theorem siteOf_purgeAll (ids : List Nat) (s : Cf) (o : Oper) : siteOf (purgeAll s ids) o = siteOf s o := by
 obtain ⟨_, h2, h3, _⟩ := purgeAll_same ids s
 simp only [siteOf, h2, h3, purgeAll_base]
theorem allocOf_purgeAll (ids : List Nat) (s : Cf) (o : Oper) : allocOf (purgeAll s ids) o = allocOf s o := by
 simp only [allocOf, siteOf_purgeAll]
theorem apartOK_purgeAll (ids : List Nat) (s : Cf) (ops : Array Oper) (lo hi : Nat) : apartOK (purgeAll s ids) ops lo hi = apartOK s ops lo hi := by
 have : allocOf (purgeAll s ids) = allocOf s := funext (allocOf_purgeAll ids s)
 simp only [apartOK, this]
end Go.Gh
/- The ghost machine: a group of a region that draws its order: the machine's order. Conditions: none (lemmas alone). -/
namespace Go.Gh
theorem befs_lt {ops : Array Oper} (hedge : ∀ i o, ops[i]? = some o → ∀ e ∈ o.after, Region.binds .any e = true → e.on < i) : ∀ (i j : Nat), befs ops i j = true → j < i := by
 intro i
 induction i using Nat.strongRecOn with
 | _ i ih =>
  intro j h
  cases ho : ops[i]? with
  | none =>
   exfalso
   have hsz : (Region.before ops).size = ops.size := by
    rw [before_eq]
    have : ∀ (l : List Oper) (acc : Array Nat), (l.foldl beforeStep acc).size = acc.size + l.length := by
     intro l
     induction l with
     | nil => intro acc; rfl
     | cons a l ih => intro acc; rw [List.foldl_cons, ih]; simp [beforeStep]; omega
    rw [this]; simp
   unfold befs at h
   rw [Array.getD_eq_getD_getElem?, Array.getElem?_eq_none (by rw [hsz]; exact Array.getElem?_eq_none_iff.1 ho)] at h
   simp at h
  | some o =>
   obtain ⟨e, h1, h2, h3⟩ := before_spec ho h
   have h4 := hedge i o ho e h1 h2
   rcases h3 with h3 | h3
   ·omega
   ·have := ih e.on h4 j h3
    omega
theorem storeA_kind {cx : Ctx} {H : Heap} {av : Operand → AV} {T : TypeId} {x v : Operand} {id : Nat} {b : Blk} (h : storeA cx H av T x v (fun i b => some (i, b)) = some (id, b)) : (∃ a f, b = .box a f) ∨ ∃ t xs l, b = .row t xs l := by
 unfold storeA at h
 split at h
 ·split at h
  ·split at h
   ·split at h
    ·obtain ⟨z, h1, _⟩ := setA_det _ h
     simp only [Option.some.injEq, Prod.mk.injEq] at h1
     exact .inl ⟨_, _, h1.2.symm⟩
    ·split at h
     ·obtain ⟨hi, h⟩ := cond_det h
      split at h
      ·obtain ⟨z, h1, _⟩ := setT_det _ _ _ _ _ h
       simp only [Option.some.injEq, Prod.mk.injEq] at h1
       exact .inr ⟨_, _, _, h1.2.symm⟩
      ·cases h
     ·cases h
    ·cases h
   ·cases h
  ·cases h
 ·cases h
theorem seen_hit {S : Nat → Bool} {H : Heap} {id x : Nat} {b : Blk} : ∀ {es : Effs}, (x, id, b) ∈ es → S x = true → ∃ x' b', (x', id, b') ∈ es ∧ S x' = true ∧ seen es S H id = some b'
 | [], h, _ => by simp at h
 | (j, i, c) :: es, h, hS => by
  simp only [seen]
  by_cases e : S j = true ∧ i = id
  ·obtain ⟨e1, rfl⟩ := e
   rw [if_pos ⟨e1, rfl⟩]
   exact ⟨j, c, by simp, e1, rfl⟩
  ·rw [if_neg e]
   rcases List.mem_cons.1 h with h | h
   ·cases h; exact absurd ⟨hS, rfl⟩ e
   ·obtain ⟨x', b', h1, h2, h3⟩ := seen_hit (H := H) h hS
    exact ⟨x', b', by simp [h1], h2, h3⟩
theorem seen_or {S : Nat → Bool} {H : Heap} {id : Nat} {es : Effs} : seen es S H id = hlook H id ∨ ∃ x b, (x, id, b) ∈ es ∧ S x = true ∧ seen es S H id = some b := by
 by_cases h : ∃ x b, (x, id, b) ∈ es ∧ S x = true
 ·obtain ⟨x, b, h1, h2⟩ := h
  exact .inr (seen_hit h1 h2)
 ·left
  refine seen_none (fun j b hj => ?_)
  cases hq : S j with
  | false => rfl
  | true => exact absurd ⟨j, b, hj, hq⟩ h
structure DFix (cx : Ctx) (s : Cf) (ops : Array Oper) (lo hi : Nat) (om : Nat → Bool) (r2 : Regs) (effs : Effs) : Prop where
 edge : ∀ i o, ops[i]? = some o → ∀ e ∈ o.after, Region.binds .any e = true → e.on < i
 ok : DrawOK ops s.fr.n lo hi
 apart : apartOK s ops lo hi = true
 told : ∀ x, lo ≤ x → x < hi → Told cx s ops lo hi om s.fr.regs r2 effs s.heap x
 regs : ∀ u, (∀ x o, lo ≤ x → x < hi → ops[x]? = some o → o.dst ≠ some u) → look r2 u = look s.fr.regs u
 within : ∀ x id b, (x, id, b) ∈ effs → lo ≤ x ∧ x < hi
 srt : Srt effs
 men : drawMen s ops lo hi r2 effs = true
 sets : setsOK cx s ops lo hi r2 effs = true
 grow : growOK cx s ops lo hi r2 effs = true
 no : ∀ x o id, lo ≤ x → x < hi → ops[x]? = some o → allocOf s o = some id → NoMen id s ∧ usesS id s = false
 le : hi ≤ ops.size
 rest : ∀ i j, hi ≤ i → i < ops.size → j < hi → befs ops i j = true
structure DInv (B : Base) (s : Cf) (ops : Array Oper) (lo hi : Nat) (r2 : Regs) (effs : Effs) (t : List It) (T : List Item) (L : Nat → Bool) (E : Env) (F : Frame) (Fs : List Frame) : Prop where
 ok : StateOK B E
 heap : ∀ id, hlook E.H id = seen effs L s.heap id
 regs : ∀ u, (∀ x o, lo ≤ x → x < hi → L x = false → ops[x]? = some o → o.dst ≠ some u) → CV E (look r2 u) (F.tmps.getD u undef)
 old : ∀ u x o, lo ≤ x → x < hi → L x = false → ops[x]? = some o → o.dst = some u → CV E (look s.fr.regs u) (F.tmps.getD u undef)
 fr : FrOK E { s.fr with regs := [], todo := t } { F with todo := T }
 callers : All2 (FrOK E) s.callers Fs
 nd : Nd B (F :: Fs)
 base : s.base = B.base
 mid : ∀ w id b, (w, id, b) ∈ effs → isGrowE s ops (w, id, b) = true → L w = false → ∀ j oj, lo ≤ j → j < hi → ops[j]? = some oj → allocOf s oj = some id → L j = true → ∀ u, oj.dst = some u → CV E (.row id) (F.tmps.getD u undef)
def adds (L : Nat → Bool) (i : Nat) : Nat → Bool := fun x => x == i || L x
theorem adds_self {L : Nat → Bool} {i : Nat} : adds L i i = true := by simp [adds]
theorem adds_old {L : Nat → Bool} {i x : Nat} (h : L x = true) : adds L i x = true := by simp [adds, h]
theorem adds_not {L : Nat → Bool} {i x : Nat} (h : adds L i x = false) : x ≠ i ∧ L x = false := by simpa [adds] using h
theorem adds_inv {L : Nat → Bool} {i x : Nat} (h : adds L i x = true) : x = i ∨ L x = true := by simpa [adds] using h
theorem adds_ne {L : Nat → Bool} {i x : Nat} (h : x ≠ i) : adds L i x = L x := by simp [adds, h]
theorem wanted_cv {E : Env} {o : Oper} {ops : Array Oper} {tmps : Array Value} {j t : Nat} {want b : Bool} (h : CV E (.dat .bool b) (tmps.getD t undef)) (hg : o.guard = some (j, want)) (ht : (ops[j]?).bind (·.dst) = some t) :
  Region.wanted o (yielded ops tmps) = (b == want) := by
 have h2 := h.bool_inv
 have h3 : tmps[t]? = some (.bool b) := by
  cases hq : tmps[t]? with
  | none => rw [Array.getD_eq_getD_getElem?, hq] at h2; cases h2
  | some v => rw [Array.getD_eq_getD_getElem?, hq] at h2; simp at h2; rw [h2]
 simp [Region.wanted, hg, yielded, ht, h3]
theorem wanted_not {E : Env} {o : Oper} {ops : Array Oper} {tmps : Array Value} {j t : Nat} {want : Bool} {a : AV} (h : CV E a (tmps.getD t undef)) (hn : NotW a want) (hg : o.guard = some (j, want)) (ht : (ops[j]?).bind (·.dst) = some t) :
  Region.wanted o (yielded ops tmps) = false := by
 rcases hn with ⟨b, rfl, hb⟩ | rfl
 ·rw [wanted_cv h hg ht]
  simp [hb]
 ·obtain ⟨vs, h2, h3⟩ := h
  unfold CVL at h3
  subst h3
  have h3 : tmps[t]? = none ∨ tmps[t]? = some (.tuple #[]) := by
   cases hq : tmps[t]? with
   | none => exact .inl rfl
   | some v =>
    rw [Array.getD_eq_getD_getElem?, hq] at h2
    simp at h2
    exact .inr (by rw [h2])
  rcases h3 with h3 | h3 <;> simp [Region.wanted, hg, yielded, ht, h3]
section
variable {B : Base} {s : Cf} {ops : Array Oper} {lo hi : Nat} {om : Nat → Bool} {r2 : Regs} {effs : Effs} {t : List It} {T : List Item} {L : Nat → Bool} {E : Env} {F : Frame} {Fs cs0 : List Frame}
theorem opg_row {cx : Ctx} {H : Heap} {av : Operand → AV} {site : Nat} {args : Array Operand} {tys : Array TypeId} {a : AV} {b : Blk} (h : opg cx H av site (.call { callee := .builtin .append, args := args, argTypes := tys }) (fun a n => some (a, n)) = some (a, some b)) : ∃ t xs l, b = .row t xs l := by
 simp only [opg, limA, Bool.cond_eq_ite] at h
 split at h
 ·(repeat' split at h) <;> first
   | (cases h; done)
   | (simp only [Option.some.injEq, Prod.mk.injEq] at h; exact ⟨_, _, _, h.2.symm⟩)
 ·simp only [opf, limA, Bool.cond_eq_ite] at h
  (repeat' split at h) <;> first
   | (cases h; done)
   | (simp only [Option.some.injEq, Prod.mk.injEq] at h; exact absurd h.2 (by simp))
theorem DFix.kind (hF : DFix B.cx s ops lo hi om r2 effs) {x id : Nat} {b : Blk} (h : (x, id, b) ∈ effs) : ∃ o, ops[x]? = some o ∧ lo ≤ x ∧ x < hi ∧ (∀ id' b', (x, id', b') ∈ effs → id' = id ∧ b' = b) ∧
  ((isStore o.op = false ∧ allocOf s o = some id) ∨ (isStore o.op = true ∧ ∃ b0, seen effs (lt x) s.heap id = some b0 ∧ Like b0 b) ∨
    (isStore o.op = false ∧ isGrowE s ops (x, id, b) = true ∧ ∃ j oj, lo ≤ j ∧ j < hi ∧ ops[j]? = some oj ∧ allocOf s oj = some id ∧ isApp oj.op = true ∧ befs ops x j = true ∧ ∃ b1, (j, id, b1) ∈ effs)) ∧ ((∃ a f, b = .box a f) ∨ ∃ t xs l, b = .row t xs l) := by
 obtain ⟨h1, h2⟩ := hF.within x id b h
 obtain ⟨o, ho, htold⟩ := hF.told x h1 h2
 refine ⟨o, ho, h1, h2, ?_⟩
 obtain ⟨rx, _, _, htold⟩ := htold
 rcases htold with ⟨_, _, _, _, _, _, _, hnone⟩ | ⟨_, Hx, hHx, ⟨hns, _, a, new, hopf, _, hsome, honly⟩ | ⟨T, px, v, id', b', b0, p, hop, _, hb0, hlike, hst, _, hmem, honly⟩ | ⟨_, _, _, _, _, _, _, _, _, _, _, _, _, _, _, _, hnone⟩ | ⟨j, id', u, b', b0, b1, oj, hns, _, hap, hbef, hoj, hapj, hdj, haj, hmj, hb0, hrow, _, _, hmem, honly⟩⟩
 ·exact absurd h (hnone id b)
 ·obtain ⟨hn, hid⟩ := honly id b h
  subst hn
  obtain ⟨hal, _⟩ := hsome b rfl
  rw [← hid] at hal
  refine ⟨fun id2 b2 h3 => ?_, .inl ⟨hns, hal⟩, ?_⟩
  ·obtain ⟨q1, q2⟩ := honly id2 b2 h3
   cases q1
   exact ⟨by rw [q2, hid], rfl⟩
  ·have hbx := hopf Hx (AV × New) (fun a n => some (a, n)) (fun id b _ hl => ⟨b, hl, .refl b, fun _ => rfl⟩)
   unfold allocOf at hal
   split at hal
   ·rename_i hop
    rw [hop] at hbx
    simp only [opg, opf] at hbx
    split at hbx
    ·simp only [Option.some.injEq, Prod.mk.injEq] at hbx; exact .inl ⟨_, _, hbx.2.symm⟩
    ·cases hbx
   ·rename_i hop
    rw [hop] at hbx
    simp only [opg, opf] at hbx
    split at hbx
    ·obtain ⟨_, hbx⟩ := guardP_some hbx
     simp at hbx
    ·split at hbx
     ·split at hbx
      ·simp only [Option.some.injEq, Prod.mk.injEq] at hbx; exact .inl ⟨_, _, hbx.2.symm⟩
      ·cases hbx
     ·cases hbx
   ·rename_i hop
    rw [hop] at hbx
    exact .inr (opg_row hbx)
   ·cases hal
 ·obtain ⟨q1, q2⟩ := honly id b h
  subst q1; subst q2
  refine ⟨honly, .inr (.inl ⟨by rw [hop]; rfl, b0, by rw [← hHx]; exact hb0, hlike⟩), storeA_kind (hst Hx _ _ hb0)⟩
 ·exact absurd h (hnone id b)
 ·obtain ⟨q1, q2⟩ := honly id b h
  subst q1; subst q2
  obtain ⟨w1, w2⟩ := hF.within j _ _ hmj
  obtain ⟨t, xs, hrow⟩ := hrow
  refine ⟨honly, .inr (.inr ⟨hns, (isGrowE_iff ho).2 ⟨hns, fun ha => ?_⟩, j, oj, w1, w2, hoj, haj, hapj, hbef, b1, hmj⟩), .inr ⟨t, xs, false, hrow⟩⟩
  have hxj := apartOK_spec hF.apart h1 h2 w1 w2 (by rw [ho]; exact ha) (by rw [hoj]; exact haj)
  subst hxj
  have := befs_lt hF.edge x x hbef
  omega
theorem DFix.grown (hF : DFix B.cx s ops lo hi om r2 effs) {w id : Nat} {b : Blk} (he : (w, id, b) ∈ effs) (hg : isGrowE s ops (w, id, b) = true) {x : Nat} {b' : Blk} (h : (x, id, b') ∈ effs) : (x = w ∧ b' = b) ∨ (ops[x]?).bind (allocOf s) = some id := by
 rcases ((growOK_spec hF.grow he hg).2 x id b' h).2 rfl with e | e
 ·subst e
  obtain ⟨_, _, _, _, h3, _⟩ := hF.kind he
  exact .inl ⟨rfl, (h3 id b' h).2⟩
 ·exact .inr e
theorem DFix.chain (hF : DFix B.cx s ops lo hi om r2 effs) {x x' id : Nat} {b b' : Blk} (h : (x, id, b) ∈ effs) (h' : (x', id, b') ∈ effs) : (x' = x ∧ b' = b) ∨ befs ops x x' = true ∨ befs ops x' x = true := by
 obtain ⟨o, ho, h1, h2, h3, h4, _⟩ := hF.kind h
 obtain ⟨o', ho', h1', h2', h3', h4', _⟩ := hF.kind h'
 have same : x' = x → x' = x ∧ b' = b := fun e => by subst e; exact ⟨rfl, (h3 id b' h').2⟩
 rcases h4 with ⟨_, ha⟩ | ⟨hst, _⟩ | ⟨_, hg, j, oj, j1, j2, hoj, haj, _, hbe, _⟩
 ·rcases h4' with ⟨_, ha'⟩ | ⟨hst', _⟩ | ⟨_, hg, j, oj, j1, j2, hoj, haj, _, hbe, _⟩
  ·exact .inl (same (apartOK_spec hF.apart h1' h2' h1 h2 (by rw [ho']; exact ha') (by rw [ho]; exact ha)))
  ·rcases (setsOK_spec hF.sets h' ho' hst').1 x b h with e | e | e
   ·exact .inl (same e.symm)
   ·exact .inr (.inr e)
   ·exact .inr (.inl e.1)
  ·have := apartOK_spec hF.apart h1 h2 j1 j2 (by rw [ho]; exact ha) (by rw [hoj]; exact haj)
   subst this
   exact .inr (.inr hbe)
 ·rcases (setsOK_spec hF.sets h ho hst).1 x' b' h' with e | e | e
  ·exact .inl (same e)
  ·exact .inr (.inl e)
  ·exact .inr (.inr e.1)
 ·rcases hF.grown h hg h' with e | e
  ·exact .inl e
  ·have := apartOK_spec hF.apart h1' h2' j1 j2 e (by rw [hoj]; exact haj)
   subst this
   exact .inr (.inl hbe)
theorem DFix.made (hF : DFix B.cx s ops lo hi om r2 effs) {x x' id : Nat} {b b' : Blk} {o : Oper} (h : (x, id, b) ∈ effs) (ho : ops[x]? = some o) (ha : allocOf s o = some id) (h' : (x', id, b') ∈ effs) : (x' = x ∧ b' = b) ∨ befs ops x' x = true := by
 obtain ⟨o2, ho2, h1, h2, h3, h4, _⟩ := hF.kind h
 rw [ho] at ho2; cases ho2
 obtain ⟨o', ho', h1', h2', h3', h4', _⟩ := hF.kind h'
 have same : x' = x → x' = x ∧ b' = b := fun e => by subst e; exact ⟨rfl, (h3 id b' h').2⟩
 have hns : isStore o.op = false := by
  unfold allocOf at ha
  split at ha
  ·rename_i e; rw [e]; rfl
  ·rename_i e; rw [e]; rfl
  ·rename_i e; rw [e]; rfl
  ·cases ha
 rcases h4' with ⟨_, ha'⟩ | ⟨hst', _⟩ | ⟨_, hg, j, oj, j1, j2, hoj, haj, _, hbe, _⟩
 ·exact .inl (same (apartOK_spec hF.apart h1' h2' h1 h2 (by rw [ho']; exact ha') (by rw [ho]; exact ha)))
 ·rcases (setsOK_spec hF.sets h' ho' hst').1 x b h with e | e | ⟨_, o3, ho3, hs3⟩
  ·exact .inl (same e.symm)
  ·exact .inr e
  ·rw [ho] at ho3; cases ho3
   rw [hns] at hs3; cases hs3
 ·have := apartOK_spec hF.apart h1 h2 j1 j2 (by rw [ho]; exact ha) (by rw [hoj]; exact haj)
  subst this
  exact .inr hbe
theorem seen_last {S : Nat → Bool} {H : Heap} {id x : Nat} {b : Blk} : ∀ {es : Effs}, Srt es → (x, id, b) ∈ es → S x = true → (∀ x' b', (x', id, b') ∈ es → S x' = true → x' ≤ x) → seen es S H id = some b
 | [], _, h, _, _ => by simp at h
 | (j, i, c) :: es, hs, h, hS, hm => by
  unfold Srt at hs
  rw [List.pairwise_cons] at hs
  simp only [seen]
  by_cases e : S j = true ∧ i = id
  ·obtain ⟨e1, rfl⟩ := e
   rw [if_pos ⟨e1, rfl⟩]
   rcases List.mem_cons.1 h with h | h
   ·cases h; rfl
   ·have h1 := hs.1 (x, i, b) h
    have h2 := hm j c (by simp) e1
    simp only at h1
    omega
  ·rw [if_neg e]
   rcases List.mem_cons.1 h with h | h
   ·cases h; exact absurd ⟨hS, rfl⟩ e
   ·exact seen_last hs.2 h hS (fun x' b' h' hS' => hm x' b' (by simp [h']) hS')
theorem finish_eq {i : Nat} {is : List Nat} {v : Value} {o : Oper} (ht : F.todo = .inRegion ops (i :: is) :: T) (ho : ops[i]? = some o) :
  F.finish v = { F with tmps := (match o.dst with | some d => F.tmps.setIfInBounds d v | none => F.tmps), todo := .inRegion ops is :: T } := by
 simp only [Frame.finish, ht, ho, Option.bind_some]
 cases o.dst <;> rfl
theorem DInv.plain {i : Nat} {is : List Nat} {v : Value} {o : Oper} {E' : Env} (hF : DFix B.cx s ops lo hi om r2 effs) (h : DInv B s ops lo hi r2 effs t T L E F Fs) (hl : lo ≤ i) (hi' : i < hi) (ho : ops[i]? = some o) (ht : F.todo = .inRegion ops (i :: is) :: T)
  (hs' : StateOK B E') (hK : Keeps E E') (hH : ∀ id, hlook E'.H id = seen effs (adds L i) s.heap id) (hv : ∀ d, o.dst = some d → CV E' (look r2 d) v)
  (hmk : ∀ id b w, (w, id, b) ∈ effs → isGrowE s ops (w, id, b) = true → ∀ oj, ops[i]? = some oj → allocOf s oj = some id → False) :
  DInv B s ops lo hi r2 effs t T (adds L i) E' (F.finish v) Fs := by
 rw [finish_eq ht ho]
 have hold : ∀ u x o', lo ≤ x → x < hi → adds L i x = false → ops[x]? = some o' → o'.dst = some u → CV E' (look s.fr.regs u) ((match o.dst with | some d => F.tmps.setIfInBounds d v | none => F.tmps).getD u undef) := by
  intro u x o' hx hx' hL hox hd
  obtain ⟨hne, hL⟩ := adds_not hL
  have h1 := hK.cv (h.old u x o' hx hx' hL hox hd)
  cases hq : o.dst with
  | none => exact h1
  | some d =>
   rw [setTmp, if_neg (fun hc => hF.ok.apart i x o o' u hl hi' hx hx' (fun e => hne e.symm) ho hox hd (by rw [hq, hc.1]))]
   exact h1
 refine ⟨hs', hH, ?_, hold, ?_, h.callers.mono fun _ _ c => FrOK.keeps hK c, h.nd, h.base, ?_⟩
 rotate_right
 ·intro w id b he hg hLw j oj hj hj' hoj haj hLj u hu
  obtain ⟨hne, hLw⟩ := adds_not hLw
  have hji : j ≠ i := fun e => by subst e; exact hmk id b w he hg oj hoj haj
  have h1 := hK.cv (h.mid w id b he hg hLw j oj hj hj' hoj haj (by rw [adds_ne hji] at hLj; exact hLj) u hu)
  cases hq : o.dst with
  | none => exact h1
  | some d =>
   rw [setTmp, if_neg (fun hc => hF.ok.apart i j o oj u hl hi' hj hj' (Ne.symm hji) ho hoj hu (by rw [hq, hc.1]))]
   exact h1
 ·intro u hu
  have hn : F.tmps.size = s.fr.n := h.fr.regs.1
  by_cases e : o.dst = some u
  ·have hlt := hF.ok.lt i o u hl hi' ho e
   simp only [e]
   rw [setTmp, hn, if_pos ⟨rfl, hlt⟩]
   exact hv u e
  ·have h1 : CV E' (look r2 u) (F.tmps.getD u undef) := hK.cv (h.regs u (fun x o' hx hx' hL hox => by
    by_cases ex : x = i
    ·subst ex; rw [ho] at hox; cases hox; exact e
    ·exact hu x o' hx hx' (by simp [adds, ex, hL]) hox))
   cases hq : o.dst with
   | none => exact h1
   | some d =>
    rw [setTmp, if_neg (fun hc => e (by rw [hq, hc.1]))]
    exact h1
 ·have hfr := h.fr.keeps hK
  refine ⟨hfr.fn, ⟨?_, fun u => trivial⟩, hfr.todo, hfr.round, hfr.defers, hfr.mode, hfr.kind⟩
  have hn := hfr.regs.1
  show (match o.dst with | some d => F.tmps.setIfInBounds d v | none => F.tmps).size = _
  cases o.dst with
  | none => exact hn
  | some d => rw [Array.size_setIfInBounds]; exact hn
theorem usesF_of {id : Nat} (h : usesS id s = false) : usesF id { s.fr with regs := [], todo := t } = (t.any (usesIt id)) := by
 simp only [usesS, usesF, Bool.or_eq_false_iff] at h ⊢
 rw [h.1.1.1.1.1, h.1.1.1.1.2]
 simp
theorem DInv.bound {i : Nat} {is : List Nat} {o : Oper} {b : Blk} {w' : World} {q : Option Nat} {v : Value} {id : Nat} (hF : DFix B.cx s ops lo hi om r2 effs) (h : DInv B s ops lo hi r2 effs t T L E F Fs) (hcl : ∀ x, L x = true → ∀ j, befs ops x j = true → L j = true)
  (hl : lo ≤ i) (hi' : i < hi) (hLi : L i = false) (ho : ops[i]? = some o) (ht : F.todo = .inRegion ops (i :: is) :: T) (htu : ∀ id, usesS id s = false → t.any (usesIt id) = false) (ha : allocOf s o = some id) (hb : (i, id, b) ∈ effs)
  (hB : BindOK B E id b w' q) (hbok : BOK B (E.bind B id b w' q) id b) (hv : ∀ d, o.dst = some d → CV (E.bind B id b w' q) (look r2 d) v)
  (hvm : ∀ w b', (w, id, b') ∈ effs → isGrowE s ops (w, id, b') = true → ∀ d, o.dst = some d → CV (E.bind B id b w' q) (.row id) v) :
  ∃ E', E'.m.w = w' ∧ DInv B s ops lo hi r2 effs t T (adds L i) E' (F.finish v) Fs := by
 obtain ⟨hno, hu⟩ := hF.no i o id hl hi' ho ha
 have hai : (ops[i]?).bind (allocOf s) = some id := by rw [ho]; exact ha
 have hmen := drawMen_spec hF.men hl hi' hai
 have hnot : ∀ x, L x = true → befs ops x i = false := fun x hL => by
  cases hq : befs ops x i with
  | false => rfl
  | true => rw [hcl x hL i hq] at hLi; cases hLi
 have hblk : ∀ j b, hlook E.H j = some b → menB id b = false := by
  intro j b hj
  rw [h.heap] at hj
  rcases seen_or (es := effs) (S := L) (H := s.heap) (id := j) with h1 | ⟨x, b', h1, h2, h3⟩
  ·rw [h1] at hj; exact hno.heap j b hj
  ·rw [h3] at hj; cases hj
   exact hmen.2 x j b h1 (fun _ => hnot x h2)
 have honly : ∀ x b', (x, id, b') ∈ effs → L x = true → False := by
  intro x b' hx hLx
  rcases hF.made hb ho ha hx with e | e
  ·rw [e.1, hLi] at hLx; cases hLx
  ·rw [hnot x hLx] at e; cases e
 have hfree : hlook E.H id = none := by
  rw [h.heap, seen_none (fun x b' hx => by
   cases hq : L x with
   | false => rfl
   | true => exact (honly x b' hx hq).elim)]
  exact hno.none
 have hN : NoLoop E id := by
  intro j x jmp y fn n rg ps p q d hl'
  rw [h.heap] at hl'
  rcases seen_or (es := effs) (S := L) (H := s.heap) (id := j) with h1 | ⟨x', b', h1, h2, h3⟩
  ·rw [h1] at hl'
   exact noLoop_of (E := ⟨E.m, E.ρ, s.heap⟩) rfl (by simp only [usesS, Bool.or_eq_false_iff] at hu; exact hu.1.2) _ _ _ _ _ _ _ _ _ _ _ hl'
  ·rw [h3] at hl'; cases hl'
   obtain ⟨_, _, _, _, _, _, h4⟩ := hF.kind h1
   rcases h4 with ⟨_, _, h4⟩ | ⟨_, _, _, h4⟩ <;> cases h4
 have hother : ∀ j, id ≠ j → hlook (E.bind B id b w' q).H j = hlook E.H j := by
  intro j hj
  rw [hlook_bind_other hj]
  cases hq : hlook E.H j with
  | none => rfl
  | some b => rw [Option.map_some, purgeB_id (hblk j b hq)]
 refine ⟨E.bind B id b w' q, rfl, ?_⟩
 rw [finish_eq ht ho]
 have hold : ∀ u x o', lo ≤ x → x < hi → adds L i x = false → ops[x]? = some o' → o'.dst = some u → CV (E.bind B id b w' q) (look s.fr.regs u) ((match o.dst with | some d => F.tmps.setIfInBounds d v | none => F.tmps).getD u undef) := by
  intro u x o' hx hx' hL hox hd
  obtain ⟨hne, hL⟩ := adds_not hL
  have h1 := CV.bind h.ok hB (h.old u x o' hx hx' hL hox hd)
  rw [purge_id id _ (look_men hno.fr)] at h1
  cases hq : o.dst with
  | none => exact h1
  | some d =>
   rw [setTmp, if_neg (fun hc => hF.ok.apart i x o o' u hl hi' hx hx' (fun e => hne e.symm) ho hox hd (by rw [hq, hc.1]))]
   exact h1
 refine ⟨h.ok.bind hB hN (usesS_low h.base hu) hbok, ?_, ?_, hold, ?_, ?_, h.nd, h.base, ?_⟩
 rotate_right
 ·intro w id2 b2 he hg hLw j oj hj hj' hoj haj hLj u hu
  obtain ⟨hne, hLw⟩ := adds_not hLw
  by_cases hji : j = i
  ·subst hji
   rw [ho] at hoj; cases hoj
   rw [ha] at haj; cases haj
   have hlt := hF.ok.lt j o u hl hi' ho hu
   simp only [hu]
   rw [setTmp, h.fr.regs.1, if_pos ⟨rfl, hlt⟩]
   exact hvm w b2 he hg u hu
  ·have hne2 : id2 ≠ id := fun e => by
    subst e
    exact hji (apartOK_spec hF.apart hj hj' hl hi' (by rw [hoj]; exact haj) hai)
   have h1 := CV.bind h.ok hB (h.mid w id2 b2 he hg hLw j oj hj hj' hoj haj (by rw [adds_ne hji] at hLj; exact hLj) u hu)
   rw [purge_id id _ (by simp [Gh.men, hne2])] at h1
   cases hq : o.dst with
   | none => exact h1
   | some d =>
    rw [setTmp, if_neg (fun hc => hF.ok.apart i j o oj u hl hi' hj hj' (Ne.symm hji) ho hoj hu (by rw [hq, hc.1]))]
    exact h1
 ·intro j
  by_cases e : id = j
  ·subst e
   rw [hlook_bind_same, seen_last hF.srt hb adds_self (fun x' b' hx hS => by
    rcases adds_inv hS with e | e
    ·omega
    ·exact (honly x' b' hx e).elim)]
  ·rw [hother j e, h.heap]
   refine seen_congr (fun x b hx => ?_)
   by_cases ex : x = i
   ·subst ex
    obtain ⟨_, _, _, _, h4, _⟩ := hF.kind hb
    exact absurd (h4 j b hx).1.symm e
   ·rw [adds_ne ex]
 ·intro u hu2
  have hn : F.tmps.size = s.fr.n := h.fr.regs.1
  by_cases e : o.dst = some u
  ·have hlt := hF.ok.lt i o u hl hi' ho e
   simp only [e]
   rw [setTmp, hn, if_pos ⟨rfl, hlt⟩]
   exact hv u e
  ·have hknown : ∀ x o', lo ≤ x → x < hi → L x = false → ops[x]? = some o' → o'.dst ≠ some u := fun x o' hx hx' hL hox => by
    by_cases ex : x = i
    ·subst ex; rw [ho] at hox; cases hox; exact e
    ·exact hu2 x o' hx hx' (by simp [adds, ex, hL]) hox
   have hmu : Gh.men id (look r2 u) = false := by
    by_cases hex : ∃ x o', lo ≤ x ∧ x < hi ∧ ops[x]? = some o' ∧ o'.dst = some u
    ·obtain ⟨x, o', hx, hx', hox, hd⟩ := hex
     cases hL : L x with
     | true => exact hmen.1 x o' u hx hx' (fun e => by subst e; rw [hLi] at hL; cases hL) (hnot x hL) hox hd
     | false => exact absurd hd (hknown x o' hx hx' hL hox)
    ·rw [hF.regs u (fun x o' hx hx' hox hd => hex ⟨x, o', hx, hx', hox, hd⟩)]
     exact look_men hno.fr
   have h1 := CV.bind h.ok hB (h.regs u hknown)
   rw [purge_id id _ hmu] at h1
   cases hq : o.dst with
   | none => exact h1
   | some d =>
    rw [setTmp, if_neg (fun hc => e (by rw [hq, hc.1]))]
    exact h1
 ·have hfr := h.fr.bind h.ok hB (by rw [usesF_of hu]; exact htu id hu)
  refine ⟨hfr.fn, ⟨?_, fun u => trivial⟩, hfr.todo, hfr.round, hfr.defers, hfr.mode, hfr.kind⟩
  have hn := hfr.regs.1
  show (match o.dst with | some d => F.tmps.setIfInBounds d _ | none => F.tmps).size = _
  cases o.dst with
  | none => exact hn
  | some d => rw [Array.size_setIfInBounds]; exact hn
 ·have hcs := callers_purge h.ok hB (by simp only [usesS, Bool.or_eq_false_iff] at hu; exact hu.1.1.2) h.callers
  have : s.callers.map (purgeF id) = s.callers := by
   have : ∀ l : List Fr, (∀ f ∈ l, menR' id f.regs = false) → l.map (purgeF id) = l := by
    intro l hl
    induction l with
    | nil => rfl
    | cons f l ih =>
     rw [List.map_cons, ih (fun g hg => hl g (by simp [hg]))]
     congr 1
     simp only [purgeF, purgeR_id (hl f (by simp))]
   exact this _ hno.callers
  rw [this] at hcs
  exact hcs
theorem DInv.grows {i j : Nat} {is : List Nat} {o oj : Oper} {b : Blk} {w' : World} {q : Option Nat} {v : Value} {id : Nat} (hF : DFix B.cx s ops lo hi om r2 effs) (h : DInv B s ops lo hi r2 effs t T L E F Fs)
  (hl : lo ≤ i) (hi' : i < hi) (hLi : L i = false) (ho : ops[i]? = some o) (ht : F.todo = .inRegion ops (i :: is) :: T) (htu : ∀ id, usesS id s = false → t.any (usesIt id) = false) (hg : isGrowE s ops (i, id, b) = true) (hb : (i, id, b) ∈ effs)
  (hj : lo ≤ j) (hj' : j < hi) (hoj : ops[j]? = some oj) (haj : allocOf s oj = some id) (hbe : befs ops i j = true)
  (hB : BindOK B E id b w' q) (hbok : BOK B (E.bind B id b w' q) id b) (hv : ∀ d, o.dst = some d → CV (E.bind B id b w' q) (look r2 d) v) :
  ∃ E', E'.m.w = w' ∧ DInv B s ops lo hi r2 effs t T (adds L i) E' (F.finish v) Fs := by
 obtain ⟨hno, hu⟩ := hF.no j oj id hj hj' hoj haj
 obtain ⟨gs1, gs2⟩ := growOK_spec hF.grow hb hg
 have hblk : ∀ j b, hlook E.H j = some b → menB id b = false := by
  intro j b hj
  rw [h.heap] at hj
  rcases seen_or (es := effs) (S := L) (H := s.heap) (id := j) with h1 | ⟨x, b', h1, h2, h3⟩
  ·rw [h1] at hj; exact hno.heap j b hj
  ·rw [h3] at hj; cases hj
   exact (gs2 x j b h1).1
 have hN : NoLoop E id := by
  intro j x jmp y fn n rg ps p q d hl'
  rw [h.heap] at hl'
  rcases seen_or (es := effs) (S := L) (H := s.heap) (id := j) with h1 | ⟨x', b', h1, h2, h3⟩
  ·rw [h1] at hl'
   exact noLoop_of (E := ⟨E.m, E.ρ, s.heap⟩) rfl (by simp only [usesS, Bool.or_eq_false_iff] at hu; exact hu.1.2) _ _ _ _ _ _ _ _ _ _ _ hl'
  ·rw [h3] at hl'; cases hl'
   obtain ⟨_, _, _, _, _, _, h4⟩ := hF.kind h1
   rcases h4 with ⟨_, _, h4⟩ | ⟨_, _, _, h4⟩ <;> cases h4
 have hother : ∀ j, id ≠ j → hlook (E.bind B id b w' q).H j = hlook E.H j := by
  intro j hj
  rw [hlook_bind_other hj]
  cases hq : hlook E.H j with
  | none => rfl
  | some b => rw [Option.map_some, purgeB_id (hblk j b hq)]
 refine ⟨E.bind B id b w' q, rfl, ?_⟩
 rw [finish_eq ht ho]
 have hold : ∀ u x o', lo ≤ x → x < hi → adds L i x = false → ops[x]? = some o' → o'.dst = some u → CV (E.bind B id b w' q) (look s.fr.regs u) ((match o.dst with | some d => F.tmps.setIfInBounds d v | none => F.tmps).getD u undef) := by
  intro u x o' hx hx' hL hox hd
  obtain ⟨hne, hL⟩ := adds_not hL
  have h1 := CV.bind h.ok hB (h.old u x o' hx hx' hL hox hd)
  rw [purge_id id _ (look_men hno.fr)] at h1
  cases hq : o.dst with
  | none => exact h1
  | some d =>
   rw [setTmp, if_neg (fun hc => hF.ok.apart i x o o' u hl hi' hx hx' (fun e => hne e.symm) ho hox hd (by rw [hq, hc.1]))]
   exact h1
 refine ⟨h.ok.bind hB hN (usesS_low h.base hu) hbok, ?_, ?_, hold, ?_, ?_, h.nd, h.base, ?_⟩
 ·intro k
  by_cases e : id = k
  ·subst e
   rw [hlook_bind_same, seen_last hF.srt hb adds_self (fun x' b' hx _ => by
    rcases hF.grown hb hg hx with e | e
    ·omega
    ·obtain ⟨w1, w2⟩ := hF.within _ _ _ hx
     have := apartOK_spec hF.apart w1 w2 hj hj' e (by rw [hoj]; exact haj)
     have := befs_lt hF.edge i j hbe
     omega)]
  ·rw [hother k e, h.heap]
   refine seen_congr (fun x b' hx => ?_)
   by_cases ex : x = i
   ·subst ex
    obtain ⟨_, _, _, _, h4, _⟩ := hF.kind hb
    exact absurd (h4 k b' hx).1.symm e
   ·rw [adds_ne ex]
 ·intro u hu2
  have hn : F.tmps.size = s.fr.n := h.fr.regs.1
  by_cases e : o.dst = some u
  ·have hlt := hF.ok.lt i o u hl hi' ho e
   simp only [e]
   rw [setTmp, hn, if_pos ⟨rfl, hlt⟩]
   exact hv u e
  ·have hknown : ∀ x o', lo ≤ x → x < hi → L x = false → ops[x]? = some o' → o'.dst ≠ some u := fun x o' hx hx' hL hox => by
    by_cases ex : x = i
    ·subst ex; rw [ho] at hox; cases hox; exact e
    ·exact hu2 x o' hx hx' (by simp [adds, ex, hL]) hox
   have hmu : Gh.men id (look r2 u) = false := by
    by_cases hex : ∃ x o', lo ≤ x ∧ x < hi ∧ ops[x]? = some o' ∧ o'.dst = some u
    ·obtain ⟨x, o', hx, hx', hox, hd⟩ := hex
     exact (gs1 x o' hx hx' hox).2 (fun ex => by subst ex; rw [ho] at hox; cases hox; exact e hd) u hd
    ·rw [hF.regs u (fun x o' hx hx' hox hd => hex ⟨x, o', hx, hx', hox, hd⟩)]
     exact look_men hno.fr
   have h1 := CV.bind h.ok hB (h.regs u hknown)
   rw [purge_id id _ hmu] at h1
   cases hq : o.dst with
   | none => exact h1
   | some d =>
    rw [setTmp, if_neg (fun hc => e (by rw [hq, hc.1]))]
    exact h1
 ·have hfr := h.fr.bind h.ok hB (by rw [usesF_of hu]; exact htu id hu)
  refine ⟨hfr.fn, ⟨?_, fun u => trivial⟩, hfr.todo, hfr.round, hfr.defers, hfr.mode, hfr.kind⟩
  have hn := hfr.regs.1
  show (match o.dst with | some d => F.tmps.setIfInBounds d _ | none => F.tmps).size = _
  cases o.dst with
  | none => exact hn
  | some d => rw [Array.size_setIfInBounds]; exact hn
 ·have hcs := callers_purge h.ok hB (by simp only [usesS, Bool.or_eq_false_iff] at hu; exact hu.1.1.2) h.callers
  have : s.callers.map (purgeF id) = s.callers := by
   have : ∀ l : List Fr, (∀ f ∈ l, menR' id f.regs = false) → l.map (purgeF id) = l := by
    intro l hl
    induction l with
    | nil => rfl
    | cons f l ih =>
     rw [List.map_cons, ih (fun g hg => hl g (by simp [hg]))]
     congr 1
     simp only [purgeF, purgeR_id (hl f (by simp))]
   exact this _ hno.callers
  rw [this] at hcs
  exact hcs
 ·intro w id2 b2 he hg2 hLw k ok hk hk' hok hak hLk u hu
  obtain ⟨hne, hLw⟩ := adds_not hLw
  obtain ⟨ow, how, w1, w2, _, h4, _⟩ := hF.kind he
  obtain ⟨g1, g2⟩ := (isGrowE_iff how).1 hg2
  have hne2 : id2 ≠ id := fun e => by
   subst e
   rcases hF.grown hb hg he with e | e
   ·exact hne e.1
   ·rw [how] at e; exact g2 e
  have hki : k ≠ i := fun e => by
   subst e
   rcases h4 with ⟨_, h4⟩ | ⟨h4, _⟩ | ⟨_, _, j3, oj3, j1, j2, hoj3, haj3, _, _, b1, hm⟩
   ·exact g2 h4
   ·rw [g1] at h4; cases h4
   ·have := apartOK_spec hF.apart hk hk' j1 j2 (by rw [hok]; exact hak) (by rw [hoj3]; exact haj3)
    subst this
    obtain ⟨_, _, _, _, h5, _⟩ := hF.kind hb
    exact hne2 (h5 id2 b1 hm).1
  have h1 := CV.bind h.ok hB (h.mid w id2 b2 he hg2 hLw k ok hk hk' hok hak (by rw [adds_ne hki] at hLk; exact hLk) u hu)
  rw [purge_id id _ (by simp [Gh.men, hne2])] at h1
  cases hq : o.dst with
  | none => exact h1
  | some d =>
   rw [setTmp, if_neg (fun hc => hF.ok.apart i k o ok u hl hi' hk hk' (Ne.symm hki) ho hok hu (by rw [hq, hc.1]))]
   exact h1
theorem DInv.alloc {i : Nat} {is : List Nat} {o : Oper} {z : AV} {arr : Array Value} {el : TypeId} {id : Nat} (hF : DFix B.cx s ops lo hi om r2 effs) (h : DInv B s ops lo hi r2 effs t T L E F Fs) (hcl : ∀ x, L x = true → ∀ j, befs ops x j = true → L j = true)
  (hl : lo ≤ i) (hi' : i < hi) (hLi : L i = false) (ho : ops[i]? = some o) (ht : F.todo = .inRegion ops (i :: is) :: T) (htu : ∀ id, usesS id s = false → t.any (usesIt id) = false) (ha : allocOf s o = some id) (hb : (i, id, .box z false) ∈ effs) (hz : CC E z arr.toList) (hv : ∀ d, o.dst = some d → look r2 d = .ptr id []) (happ : isApp o.op = false) :
  ∃ E', E'.m.w = { E.m.w with heap := E.m.w.heap.push (.cells arr el (0, 0)) } ∧ DInv B s ops lo hi r2 effs t T (adds L i) E' (F.finish (.pointer (some ⟨E.m.w.heap.size, 0, none⟩))) Fs := by
 have hai : (ops[i]?).bind (allocOf s) = some id := by rw [ho]; exact ha
 have hmz : Gh.men id z = false := (drawMen_spec hF.men hl hi' hai).2 i id _ hb (fun hne => absurd rfl hne)
 have hsame : ∀ k, k < E.m.w.heap.size → (E.m.w.heap.push (.cells arr el (0, 0)))[k]? = E.m.w.heap[k]? := fun k hk => by rw [Array.getElem?_push, if_neg (by omega)]
 have hB : BindOK B E id (.box z false) { E.m.w with heap := E.m.w.heap.push (.cells arr el (0, 0)) } (some E.m.w.heap.size) := by
  refine ⟨by simp, rfl, rfl, rfl, fun k' j' v' hc _ => ?_, fun k' x hx => ?_, fun k' hk' _ => hsame k' hk', fun k' hk' => ?_, fun k' j' hk' _ => ?_⟩
  ·have := cell_lt hc
   rw [← hc]; exact cell_block (hsame k' this) j'
  ·have := shape_lt hx
   rw [← hx]; exact shape_block (hsame k' this)
  ·cases hk'; exact .inl (Nat.le_refl _)
  ·cases hk'; exact .inl (Nat.le_refl _)
 have hbok : BOK B (E.bind B id (.box z false) { E.m.w with heap := E.m.w.heap.push (.cells arr el (0, 0)) } (some E.m.w.heap.size)) id (.box z false) := by
  refine ⟨E.m.w.heap.size, arr, el, upd_same, h.ok.ext.size, ?_, ?_⟩
  ·show (E.m.w.heap.push (.cells arr el (0, 0)))[E.m.w.heap.size]? = _
   simp
  ·have := CC.bind h.ok hB hz
   rw [purge_id id z hmz] at this
   exact this
 have hptr : CV (E.bind B id (.box z false) { E.m.w with heap := E.m.w.heap.push (.cells arr el (0, 0)) } (some E.m.w.heap.size)) (.ptr id []) (.pointer (some ⟨E.m.w.heap.size, 0, none⟩)) := by
  refine CV.of1 ?_ rfl
  unfold CC
  exact ⟨_, rfl, rfl, fun b _ => ⟨_, upd_same, by simp [offK]⟩⟩
 refine h.bound hF hcl hl hi' hLi ho ht htu ha hb hB hbok (fun d hd => by rw [hv d hd]; exact hptr) fun w b' he hg d hd => ?_
 exfalso
 obtain ⟨o2, ho2, _, _, _, h4, _⟩ := hF.kind he
 obtain ⟨g1, g2⟩ := (isGrowE_iff ho2).1 hg
 rcases h4 with ⟨_, h4⟩ | ⟨h4, _⟩ | ⟨_, _, j, oj, j1, j2, hoj, haj, hap, _, _⟩
 ·exact g2 h4
 ·rw [g1] at h4; cases h4
 ·have := apartOK_spec hF.apart hl hi' j1 j2 hai (by rw [hoj]; exact haj)
  subst this
  rw [ho] at hoj; cases hoj
  rw [happ] at hap; cases hap
end
end Go.Gh
/- The ghost machine: a region that draws its order: its step. Conditions: none (lemmas alone). -/
namespace Go.Gh
theorem exists_min {p : Nat → Prop} (h : ∃ i, p i) : ∃ i, p i ∧ ∀ j, j < i → ¬ p j := by
 obtain ⟨i, hi⟩ := h
 induction i using Nat.strongRecOn with
 | _ i ih =>
  by_cases hex : ∃ j, j < i ∧ p j
  ·obtain ⟨j, hj, hp⟩ := hex
   exact ih j hj hp
  ·exact ⟨i, hi, fun j hj hp => hex ⟨j, hj, hp⟩⟩
theorem getD_flip {l : Array Bool} {i : Nat} (hi : i < l.size) : l.getD i true = l.getD i false := by
 simp [Array.getD_eq_getD_getElem?, hi]
theorem unlisted_of_count {l : Array Bool} {n : Nat} (h : l.toList.count false = n + 1) : ∃ i, i < l.size ∧ l.getD i false = false := by
 have : 0 < l.toList.count false := by omega
 have hm := List.count_pos_iff.1 this
 obtain ⟨i, hi⟩ := List.mem_iff_getElem?.1 hm
 have hlt := (List.getElem?_eq_some_iff.1 hi).1
 exact ⟨i, by simpa using hlt, by rw [Array.getD_eq_getD_getElem?, ← Array.getElem?_toList, hi]; rfl⟩
theorem count_listed {l : Array Bool} {n i : Nat} (h : l.toList.count false = n + 1) (hi : i < l.size) (hl : l.getD i false = false) : (l.setIfInBounds i true).toList.count false = n := by
 rw [Array.toList_setIfInBounds, List.count_set (by simpa using hi)]
 have : l.toList[i]'(by simpa using hi) = false := by
  rw [Array.getD_eq_getD_getElem?, Array.getElem?_eq_getElem hi] at hl
  simpa using hl
 rw [this]
 simp [h]
theorem getD_listed {l : Array Bool} {i x : Nat} (hi : i < l.size) : (l.setIfInBounds i true).getD x false = adds (fun x => l.getD x false) i x := by
 simp only [Array.getD_eq_getD_getElem?, Array.getElem?_setIfInBounds, adds]
 by_cases e : i = x
 ·subst e; simp [hi]
 ·have : (x == i) = false := by simp [Ne.symm e]
  simp [e, this]
theorem go_succ (ops : Array Oper) (f tt : Nat) (listed : Array Bool) : Region.linearise.go .any ops (f + 1) tt listed [] =
  (match (Region.ready .any ops listed)[tt % (Region.ready .any ops listed).length]? with
   | some i => i :: Region.linearise.go .any ops f (tt / (Region.ready .any ops listed).length) (listed.setIfInBounds i true) []
   | none => []) := by
 simp only [Region.linearise.go]
 change (match (Region.ready .any ops listed)[tt % (Region.ready .any ops listed).length]? with
   | some i => Region.linearise.go .any ops f (tt / (Region.ready .any ops listed).length) (listed.setIfInBounds i true) [i]
   | none => [].reverse) = _
 split
 ·rw [linearise_go_acc]; simp
 ·rfl
theorem ready_some {ops : Array Oper} {listed : Array Bool} (hedge : ∀ i o, ops[i]? = some o → ∀ e ∈ o.after, Region.binds .any e = true → e.on < i) (hs : listed.size = ops.size) (h : ∃ i, i < listed.size ∧ listed.getD i false = false) (tt : Nat) :
  ∃ i, (Region.ready .any ops listed)[tt % (Region.ready .any ops listed).length]? = some i ∧ i ∈ Region.ready .any ops listed := by
 obtain ⟨i, ⟨hi, hl⟩, hmin⟩ := exists_min h
 have hmem : i ∈ Region.ready .any ops listed := by
  rw [mem_ready]
  refine ⟨by rw [getD_flip hi]; exact hl, ops[i]'(by omega), Array.getElem?_eq_getElem _, fun e he hb => ?_⟩
  have hlt := hedge i _ (Array.getElem?_eq_getElem (by omega)) e he hb
  cases hq : listed.getD e.on false with
  | true => rfl
  | false => exact absurd ⟨by omega, hq⟩ (hmin e.on hlt)
 have hpos : 0 < (Region.ready .any ops listed).length := List.length_pos_of_mem hmem
 have hlt : tt % (Region.ready .any ops listed).length < (Region.ready .any ops listed).length := Nat.mod_lt _ hpos
 exact ⟨_, List.getElem?_eq_getElem hlt, List.getElem_mem _⟩
theorem ready_before {ops : Array Oper} {L : Nat → Bool} {i : Nat} {o : Oper} (ho : ops[i]? = some o) (hr : ∀ e ∈ o.after, Region.binds .any e = true → L e.on = true) (hcl : ∀ x, L x = true → ∀ j, befs ops x j = true → L j = true) {j : Nat} (h : befs ops i j = true) : L j = true := by
 obtain ⟨e, h1, h2, h3⟩ := before_spec ho h
 rcases h3 with h3 | h3
 ·rw [h3]; exact hr e h1 h2
 ·exact hcl _ (hr e h1 h2) _ h3
theorem constA_men (id : Nat) (v : Value) : men id (constA v) = false := by
 unfold constA
 split <;> simp [men]
theorem getD_all {ops : Array Oper} {listed : Array Bool} {hi : Nat} (hs : listed.size = ops.size) (hle : hi ≤ ops.size) (hc : listed.toList.count false = 0) (x : Nat) (hx : x < hi) : listed.getD x false = true := by
 cases hq : listed.getD x false with
 | true => rfl
 | false =>
  exfalso
  have h2 : false ∈ listed.toList := by
   rw [Array.getD_eq_getD_getElem?, Array.getElem?_eq_getElem (by omega)] at hq
   simp only [Option.getD_some] at hq
   rw [← hq]; simp
  have := List.count_pos_iff.2 h2
  omega
section
variable {B : Base} {s : Cf} {ops : Array Oper} {lo hi : Nat} {om : Nat → Bool} {r2 : Regs} {effs : Effs} {t : List It} {T : List Item} {Fs cs0 : List Frame}
theorem DFix.told_before (hF : DFix B.cx s ops lo hi om r2 effs) (hglob : ∀ g id, Gh.men id (B.cx.glob g) = false) {L : Nat → Bool} {i x0 id : Nat} {o o0 : Oper} (hcl : ∀ x, L x = true → ∀ j, befs ops x j = true → L j = true) (hl : lo ≤ i) (hi' : i < hi) (ho : ops[i]? = some o)
  (hr : ∀ e ∈ o.after, Region.binds .any e = true → L e.on = true) (hl0 : lo ≤ x0) (hi0 : x0 < hi) (ho0 : ops[x0]? = some o0) (ha : allocOf s o0 = some id) {rx : Regs} (h1x : ∀ u, (∃ j oj, lo ≤ j ∧ j < i ∧ ops[j]? = some oj ∧ oj.dst = some u) → look rx u = look r2 u) (h2x : ∀ u, (∀ j oj, lo ≤ j → j < i → ops[j]? = some oj → oj.dst ≠ some u) → look rx u = look s.fr.regs u)
  {x : Operand} (hx : x ∈ o.op.operands) (hm : Gh.men id (opA B.cx rx x) = true) : x0 < i ∧ L x0 = true := by
 have hno := (hF.no x0 o0 id hl0 hi0 ho0 ha).1
 cases x with
 | const v => simp only [opA] at hm; rw [constA_men] at hm; cases hm
 | func f => simp [opA, Gh.men, menL] at hm
 | global g => simp only [opA] at hm; rw [hglob] at hm; cases hm
 | tmp u =>
  simp only [opA] at hm
  by_cases hex : ∃ j oj, lo ≤ j ∧ j < i ∧ ops[j]? = some oj ∧ oj.dst = some u
  ·have hrx := h1x u hex
   obtain ⟨j, oj, hj, hj', hoj, hd⟩ := hex
   rcases hF.ok.look i j o oj u hl hi' hj (by omega) ho hoj hd (by unfold looks; exact List.mem_append_left _ (mem_opTmps hx)) with ⟨q1, q2⟩ | q | q
   ·have hLj : L j = true := ready_before ho hr hcl q2
    by_cases e : x0 = j
    ·subst e; exact ⟨q1, hLj⟩
    ·cases hb : befs ops j x0 with
     | true => exact ⟨by have := befs_lt hF.edge j x0 hb; omega, hcl j hLj x0 hb⟩
     | false =>
      have := (drawMen_spec hF.men hl0 hi0 (by rw [ho0]; exact ha)).1 j oj u hj (by omega) e hb hoj hd
      rw [hrx, this] at hm; cases hm
   ·omega
   ·have := befs_lt hF.edge j i q; omega
  ·rw [h2x u (fun j oj h1 h2 h3 h4 => hex ⟨j, oj, h1, h2, h3, h4⟩), look_men hno.fr] at hm
   cases hm
theorem DFix.reads (_ : DFix B.cx s ops lo hi om r2 effs) {i : Nat} {rx : Regs} (h1x : ∀ u, (∃ j oj, lo ≤ j ∧ j < i ∧ ops[j]? = some oj ∧ oj.dst = some u) → look rx u = look r2 u) (h2x : ∀ u, (∀ j oj, lo ≤ j → j < i → ops[j]? = some oj → oj.dst ≠ some u) → look rx u = look s.fr.regs u) (x : Operand) :
  opA B.cx rx x = opA B.cx r2 x ∨ opA B.cx rx x = opA B.cx s.fr.regs x := by
 cases x with
 | tmp u =>
  by_cases hex : ∃ j oj, lo ≤ j ∧ j < i ∧ ops[j]? = some oj ∧ oj.dst = some u
  ·exact .inl (h1x u hex)
  ·exact .inr (h2x u (fun j oj h1 h2 h3 h4 => hex ⟨j, oj, h1, h2, h3, h4⟩))
 | _ => exact .inl rfl
theorem DFix.root (hF : DFix B.cx s ops lo hi om r2 effs) (id : Nat) (hng : ∀ x b, (x, id, b) ∈ effs → isGrowE s ops (x, id, b) = false) : ∃ R : Blk, (∀ x b, (x, id, b) ∈ effs → Like R b) ∧ (∀ c, hlook s.heap id = some c → c = R) ∧
  ((∃ x b o, (x, id, b) ∈ effs ∧ ops[x]? = some o ∧ allocOf s o = some id) ∨ hlook s.heap id = some R ∨ ∀ x b, (x, id, b) ∉ effs) := by
 by_cases hal : ∃ x b o, (x, id, b) ∈ effs ∧ ops[x]? = some o ∧ allocOf s o = some id
 ·obtain ⟨i0, c0, o0, he0, ho0, ha0⟩ := hal
  have hnone : hlook s.heap id = none := by
   obtain ⟨h1, h2⟩ := hF.within _ _ _ he0
   exact (hF.no i0 o0 id h1 h2 ho0 ha0).1.none
  refine ⟨c0, fun x => ?_, fun c hc => (by rw [hnone] at hc; cases hc), .inl ⟨i0, c0, o0, he0, ho0, ha0⟩⟩
  induction x using Nat.strongRecOn with
  | _ x ih =>
   intro b he
   obtain ⟨o, ho, h1, h2, h3, h4, _⟩ := hF.kind he
   rcases h4 with ⟨_, ha⟩ | ⟨hst, b0, hb0, hlike⟩ | ⟨_, hgr, _⟩
   rotate_right
   ·rw [hng x b he] at hgr; cases hgr
   ·rcases hF.made he0 ho0 ha0 he with e | e
    ·rw [e.2]; exact .refl _
    ·have := apartOK_spec hF.apart h1 h2 (hF.within _ _ _ he0).1 (hF.within _ _ _ he0).2 (by rw [ho]; exact ha) (by rw [ho0]; exact ha0)
     subst this
     have := befs_lt hF.edge x x e
     omega
   ·rcases seen_or (es := effs) (S := lt x) (H := s.heap) (id := id) with h5 | ⟨x', b', h5, h6, h7⟩
    ·rw [h5, hnone] at hb0; cases hb0
    ·rw [h7] at hb0; cases hb0
     exact (ih x' (by simpa [lt] using h6) _ h5).trans hlike
 ·have hst : ∀ x b, (x, id, b) ∈ effs → ∃ b0, seen effs (lt x) s.heap id = some b0 ∧ Like b0 b := by
   intro x b he
   obtain ⟨o, ho, _, _, _, h4, _⟩ := hF.kind he
   rcases h4 with ⟨_, ha⟩ | ⟨_, h4⟩ | ⟨_, hgr, _⟩
   ·exact absurd ⟨x, b, o, he, ho, ha⟩ hal
   ·exact h4
   ·rw [hng x b he] at hgr; cases hgr
  cases hq : hlook s.heap id with
  | none =>
   have hno : ∀ x b, (x, id, b) ∉ effs := by
    intro x
    induction x using Nat.strongRecOn with
    | _ x ih =>
     intro b he
     obtain ⟨b0, h1, _⟩ := hst x b he
     rcases seen_or (es := effs) (S := lt x) (H := s.heap) (id := id) with h5 | ⟨x', b', h5, h6, h7⟩
     ·rw [h5, hq] at h1; cases h1
     ·exact ih x' (by simpa [lt] using h6) b' h5
   exact ⟨.dfr true, fun x b he => absurd he (hno x b), fun c hc => (by cases hc), .inr (.inr hno)⟩
  | some c =>
   refine ⟨c, fun x => ?_, fun c' hc => (by cases hc; rfl), .inr (.inl rfl)⟩
   induction x using Nat.strongRecOn with
   | _ x ih =>
    intro b he
    obtain ⟨b0, h1, h2⟩ := hst x b he
    rcases seen_or (es := effs) (S := lt x) (H := s.heap) (id := id) with h5 | ⟨x', b', h5, h6, h7⟩
    ·rw [h5, hq] at h1; cases h1
     exact h2
    ·rw [h7] at h1; cases h1
     exact (ih x' (by simpa [lt] using h6) _ h5).trans h2
theorem DFix.sees (hF : DFix B.cx s ops lo hi om r2 effs) (hglob : ∀ g id, Gh.men id (B.cx.glob g) = false) {L : Nat → Bool} {i : Nat} {o : Oper} {Hx H' : Heap} (hcl : ∀ x, L x = true → ∀ j, befs ops x j = true → L j = true) (hl : lo ≤ i) (hi' : i < hi) (hLi : L i = false) (ho : ops[i]? = some o)
  (hr : ∀ e ∈ o.after, Region.binds .any e = true → L e.on = true) (hns : isStore o.op = false) (hHx : ∀ id, hlook Hx id = seen effs (lt i) s.heap id) (hH' : ∀ id, hlook H' id = seen effs L s.heap id)
  {rx : Regs} (h1x : ∀ u, (∃ j oj, lo ≤ j ∧ j < i ∧ ops[j]? = some oj ∧ oj.dst = some u) → look rx u = look r2 u) (h2x : ∀ u, (∀ j oj, lo ≤ j → j < i → ops[j]? = some oj → oj.dst ≠ some u) → look rx u = look s.fr.regs u) : Sees o.op (opA B.cx rx) Hx H' := by
 intro id b ⟨x, hx, hm⟩ hb
 rw [hHx] at hb
 rw [hH']
 have hng : ∀ x b, (x, id, b) ∈ effs → isGrowE s ops (x, id, b) = false := by
  intro x' b' he
  cases hq : isGrowE s ops (x', id, b') with
  | false => rfl
  | true =>
   exfalso
   rcases hF.reads h1x h2x x with e | e
   ·rw [e, ((growOK_spec hF.grow he hq).1 i o hl hi' ho).1 x hx] at hm; cases hm
   ·obtain ⟨o2, ho2, _, _, _, h4, _⟩ := hF.kind he
    obtain ⟨g1, g2⟩ := (isGrowE_iff ho2).1 hq
    rcases h4 with ⟨_, h4⟩ | ⟨h4, _⟩ | ⟨_, _, j, oj, j1, j2, hoj, haj, _⟩
    ·exact g2 h4
    ·rw [g1] at h4; cases h4
    ·have hno := (hF.no j oj id j1 j2 hoj haj).1
     rw [e] at hm
     cases x with
     | const v => simp only [opA] at hm; rw [constA_men] at hm; cases hm
     | func f => simp [opA, Gh.men, menL] at hm
     | global g => simp only [opA] at hm; rw [hglob] at hm; cases hm
     | tmp u => simp only [opA] at hm; rw [look_men hno.fr] at hm; cases hm
 obtain ⟨R, hR1, hR2, hR3⟩ := hF.root id hng
 have alike : ∀ (S : Nat → Bool) (c : Blk), seen effs S s.heap id = some c → Like R c := by
  intro S c hc
  rcases seen_or (es := effs) (S := S) (H := s.heap) (id := id) with h5 | ⟨x', b', h5, h6, h7⟩
  ·rw [h5] at hc; rw [hR2 c hc]; exact .refl _
  ·rw [h7] at hc; cases hc; exact hR1 x' _ h5
 have some_ : ∃ c, seen effs L s.heap id = some c := by
  rcases hR3 with ⟨i0, c0, o0, he0, ho0, ha0⟩ | h3 | h3
  ·obtain ⟨w1, w2⟩ := hF.within _ _ _ he0
   obtain ⟨_, q2⟩ := hF.told_before hglob hcl hl hi' ho hr w1 w2 ho0 ha0 h1x h2x hx hm
   obtain ⟨_, b', _, _, h7⟩ := seen_hit (H := s.heap) he0 q2
   exact ⟨b', h7⟩
  ·rcases seen_or (es := effs) (S := L) (H := s.heap) (id := id) with h5 | ⟨_, b', _, _, h7⟩
   ·exact ⟨R, by rw [h5]; exact h3⟩
   ·exact ⟨b', h7⟩
  ·rw [seen_none (fun j b' hj => absurd hj (h3 j b'))] at hb ⊢
   exact ⟨b, hb⟩
 obtain ⟨c, hc⟩ := some_
 refine ⟨c, hc, (alike _ b hb).symm.trans (alike _ c hc), fun hadd => ?_⟩
 have hsame : seen effs (lt i) s.heap id = seen effs L s.heap id := by
  refine seen_congr (fun x0 b1 he => ?_)
  obtain ⟨o0, ho0, hl0, hi0, _, hk, _⟩ := hF.kind he
  rcases hk with ⟨_, ha⟩ | ⟨hst, _⟩ | ⟨_, hgr, _⟩
  rotate_right
  ·rw [hng x0 b1 he] at hgr; cases hgr
  ·obtain ⟨q1, q2⟩ := hF.told_before hglob hcl hl hi' ho hr hl0 hi0 ho0 ha h1x h2x hx hm
   rw [q2]; simp [lt, q1]
  ·have hne : i ≠ x0 := fun e => by subst e; rw [ho] at ho0; cases ho0; rw [hns] at hst; cases hst
   cases h1 : befs ops i x0 with
   | true =>
    have hlt := befs_lt hF.edge i x0 h1
    rw [ready_before ho hr hcl h1]; simp [lt, hlt]
   | false =>
    cases h2 : befs ops x0 i with
    | true =>
     have hlt := befs_lt hF.edge x0 i h2
     have : L x0 = false := by
      cases hq : L x0 with
      | false => rfl
      | true => rw [hcl x0 hq i h2] at hLi; cases hLi
     rw [this]
     have : ¬ x0 < i := by omega
     simp [lt, this]
    | false =>
     rcases (setsOK_spec hF.sets he ho0 hst).2 i o hl hi' hne h1 h2 ho with h3 | h3
     ·rw [hadd] at h3; cases h3
     ·rcases hF.reads h1x h2x x with e | e
      ·rw [e, (h3 x hx).1] at hm; cases hm
      ·rw [e, (h3 x hx).2] at hm; cases hm
 rw [hsame, hc] at hb
 exact Option.some.inj hb
def hitV : Value → Bool
 | .tuple a => match a.toList with
  | [_, .bool b] => b
  | _ => false
 | _ => false
theorem hit_cv {E : Env} {t : Ty} {x : den t} {b : Bool} {v : Value} (h : CV E (.tup [.dat t x, .dat .bool b]) v) : hitV v = b := by
 obtain ⟨vs, rfl, h1⟩ := h
 unfold CVL at h1
 obtain ⟨v1, us, rfl, _, h2⟩ := h1
 unfold CVL at h2
 obtain ⟨v2, us2, rfl, h3, h4⟩ := h2
 unfold CVL at h4
 subst h4
 rcases h3 with ⟨cs, h5, h6⟩ | h3
 ·have h7 : CV E (.dat .bool b) v2 := ⟨cs, h5, h6⟩
  rw [CV.bool_inv h7]
  rfl
 ·simp [AV.isTop] at h3
theorem hit_lk {E : Env} {mm : Memo} {b : Bool} {o : Option (den mm.val)} {v : Value} (h : CV E (lkA mm b o) v) : hitV v = (b && o.isSome) := by
 cases b with
 | false => exact hit_cv h
 | true =>
  cases o with
  | none => exact hit_cv h
  | some u => exact hit_cv h
theorem lookup_ok {E : Env} {o : Oper} {av : Operand → AV} {ρ : Operand → Value} {F : Frame} {CS : List Frame} {T : TypeId} {x k : Operand} {i : Nat} {t : Ty} {y : den t} {mm : Memo} {y' : den (.struct mm.ts)} {q : den mm.key}
  (hs : StateOK B E) (hmo : ∀ i mm, B.cx.memo i = some mm → MapOK B.cx.P mm) (ho : o.op = .lookup T x k true) (hx : CV E (av x) (ρ x)) (hk : CV E (av k) (ρ k)) (hav : av x = .hm i t y) (hmm : B.cx.memo i = some mm) (hM : mm.M = T)
  (hy : castT t (.struct mm.ts) y = some y') (hq : toDat E.H mm.key (av k) = some q) :
  ∃ v E' b, Does B.cx.P o ρ E.m.w F CS v E'.m.w ∧ StateOK B E' ∧ E'.H = E.H ∧ Keeps E E' ∧ CV E' (lkA mm b (mm.f y' q)) v := by
 classical
 have h : opw B.cx E.H av 0 o.op (fun a H' => if (∃ b : Bool, a = lkA mm b (mm.f y' q)) ∧ H' = E.H then some () else none) = some () := by
  rw [ho]
  simp only [opw, hav, hmm, if_pos hM, hy, hq]
  have h1 : (∃ b : Bool, AV.tup [.dat mm.val (dflt mm.val), .dat .bool false] = lkA mm b (mm.f y' q)) ∧ True := ⟨⟨false, rfl⟩, trivial⟩
  have h2 : ∀ u, mm.f y' q = some u → (∃ b : Bool, AV.tup [.dat mm.val u, .dat .bool true] = lkA mm b (mm.f y' q)) ∧ True := fun u hu => ⟨⟨true, by rw [hu]; rfl⟩, trivial⟩
  revert h1 h2
  generalize (mm.f y' q) = f
  intro h1 h2
  cases f with
  | none =>
   simp only [demL]
   exact if_pos h1
  | some u =>
   simp only [demL, dem, if_pos h1, if_pos (h2 u rfl), if_true]
 obtain ⟨a, H', he, hw⟩ := write_lookup (F := F) (CS := CS) hs hmo ho hx hk h
 by_cases hc : (∃ b : Bool, a = lkA mm b (mm.f y' q)) ∧ H' = E.H
 ·obtain ⟨⟨b, rfl⟩, rfl⟩ := hc
  rcases hw with ⟨v, E', h1, h2, h3, h4, h5, _⟩ | ⟨_, _, _, _, _, h1, _⟩
  ·exact ⟨v, E', b, h1, h2, h3, h4, h5⟩
  ·unfold lkA at h1
   split at h1 <;> cases h1
 ·simp only [if_neg hc] at he; cases he
theorem opg_ok {R : Type} {E : Env} {o : Oper} {av : Operand → AV} {ρ : Operand → Value} {F : Frame} {CS : List Frame} {site : Nat} {g : AV → New → Option R} {r : R} (hs : StateOK B E) (hcx : CtxOKb B.cx) (hav : ∀ x ∈ o.op.operands, CV E (av x) (ρ x)) (h : opg B.cx E.H av site o.op g = some r) :
  ∃ a new, g a new = some r ∧ (FreeOK B E o ρ F CS site a new ∨ ∃ b v w' q, new = some b ∧ a = .row site ∧ Does B.cx.P o ρ E.m.w F CS v w' ∧ BindOK B E site b w' q ∧ BOK B (E.bind B site b w' q) site b ∧ CV (E.bind B site b w' q) (.row site) v) := by
 by_cases hap : ∃ args tys, o.op = .call { callee := .builtin .append, args := args, argTypes := tys }
 ·obtain ⟨args, tys, ho⟩ := hap
  have h0 := h
  rw [ho] at h
  simp only [opg] at h
  split at h
  ·rename_i T T' x htys hargs
   split at h
   ·rename_i hTT
    split at h
    ·rename_i hT
     split at h
     ·rename_i _ _ _ t _ _ hT'
      split at h
      ·rename_i ys hys
       obtain ⟨h, _, _, hlA⟩ := limA_some h
       have hw : opw B.cx E.H av site o.op (fun a H => some (a, H)) = some (.row site, (site, .row _ ys false) :: purgeH site E.H) := by
        rw [ho]
        simp only [opw, htys, hargs, hT, hT', hys, hlA]
        rw [if_pos hTT]
       obtain ⟨a', H', he, hwr⟩ := opw_ok (F := F) (CS := CS) hs hcx hav hw
       simp only [Option.some.injEq, Prod.mk.injEq] at he
       obtain ⟨rfl, rfl⟩ := he
       rcases hwr with ⟨v, E', _, _, _, _, _, hno⟩ | ⟨v, w', id, b, q, e1, e2, h1, h2, h3, h4⟩
       ·exact absurd rfl (hno site)
       ·cases e1
        simp only [List.cons.injEq, Prod.mk.injEq, true_and, and_true] at e2
        subst e2
        exact ⟨_, _, h, .inr ⟨_, v, w', q, rfl, rfl, h1, h2, h3, h4⟩⟩
      ·cases h
     ·cases h
    ·cases h
   ·cases h
  ·rename_i hne
   have hf : opf B.cx E.H av site o.op g = some r := by rw [ho]; exact h
   obtain ⟨a, new, h1, h2⟩ := opf_ok (F := F) (CS := CS) hs hcx.toCtxOK hav hf
   exact ⟨a, new, h1, .inl h2⟩
 ·rw [opg_opf fun args tys e => hap ⟨args, tys, e⟩] at h
  obtain ⟨a, new, h1, h2⟩ := opf_ok (F := F) (CS := CS) hs hcx.toCtxOK hav h
  exact ⟨a, new, h1, .inl h2⟩
theorem opg_no_defer {cx : Ctx} {H : Heap} {av : Operand → AV} {site : Nat} {op : Op} {R : Type} {g : AV → New → Option R} {r : R} (h : opg cx H av site op g = some r) (c : Call) : op ≠ .defer c := by
 intro e; subst e; simp [opg, opf] at h
def Real (B : Base) (o : Oper) (ops : Array Oper) (F : Frame) (CS : List Frame) (w : World) (v : Value) (w' : World) : Prop :=
 (Region.wanted o (yielded ops F.tmps) = false ∧ v = undef ∧ w' = w) ∨ (Region.wanted o (yielded ops F.tmps) = true ∧ (∀ c, o.op ≠ .defer c) ∧ Does B.cx.P o F.eval w F CS v w')
theorem Real.steps {o : Oper} {F : Frame} {CS : List Frame} {w w' : World} {v : Value} {i : Nat} {is : List Nat} (h : Real B o ops F CS w v w') (hm : F.mode = .run) (ht : F.todo = .inRegion ops (i :: is) :: T) (ho : ops[i]? = some o) :
  Steps B.cx.P (lone F CS w) (lone (F.finish v) CS w') := by
 rcases h with ⟨h1, rfl, rfl⟩ | ⟨h1, h2, h3⟩
 ·exact m_unwanted hm ht ho h1
 ·exact m_does hm ht ho h1 h2 h3
theorem nil_enter {P : Program} {ρ : Operand → Value} {o : Oper} {x : Operand} {w w' : World} {f : FuncId} {args : Array Value} (hop : o.op = .nilCheck x) : (execOp ρ o).run P w ≠ .ok (.enter f args) w' := by
 have hb : ∀ {α : Type} (s : Sem α) (k : α → Sem Next) (w0 : World), (∀ a w1, (k a).run P w1 ≠ .ok (.enter f args) w') → (s >>= k).run P w0 ≠ .ok (.enter f args) w' := fun s k w0 hk h => by
  simp only [Sem.run_bind] at h
  cases hs : s.run P w0 <;> rw [hs] at h <;> simp [Result.andThen] at h
  exact hk _ _ h
 have hr : ∀ (w0 : World), (runtimePanic RuntimeError.nilDeref : Sem Next).run P w0 ≠ .ok (.enter f args) w' := fun w0 h => by cases h
 unfold execOp
 rw [hop]
 simp only
 intro h
 split at h
 ·exact hr _ h
 ·exact hr _ h
 ·exact hr _ h
 ·split at h
  ·exact hr _ h
  ·refine hb _ _ _ (fun a w1 => hb _ _ _ (fun b w2 h => ?_)) h
   split at h
   ·simp at h
   ·cases h
  ·simp at h
 ·simp at h
theorem calm_enter {P : Program} {ρ : Operand → Value} {o : Oper} {w w' : World} {f : FuncId} {args : Array Value} (hc : calm1 o.op = true) : (execOp ρ o).run P w ≠ .ok (.enter f args) w' := by
 have hv : ∀ (s : Sem Value), (do pure (Next.value (← s)) : Sem Next).run P w ≠ .ok (.enter f args) w' := fun s h => by
  simp only [Sem.run_bind, Sem.run_pure] at h
  cases hs : s.run P w <;> rw [hs] at h <;> simp [Result.andThen] at h
 have hu : ∀ (s : Sem Unit), (do s; pure Next.skip : Sem Next).run P w ≠ .ok (.enter f args) w' := fun s h => by
  simp only [Sem.run_bind, Sem.run_pure] at h
  cases hs : s.run P w <;> rw [hs] at h <;> simp [Result.andThen] at h
 have hp : ∀ (s : Sem Bool) (x y : Value), (do pure (Next.value (if ← s then x else y)) : Sem Next).run P w ≠ .ok (.enter f args) w' := fun s x y h => by
  simp only [Sem.run_bind, Sem.run_pure] at h
  cases hs : s.run P w <;> rw [hs] at h <;> simp [Result.andThen] at h
 by_cases hn : ∃ x, o.op = .nilCheck x
 ·obtain ⟨x, hx⟩ := hn; exact nil_enter hx
 unfold execOp
 cases hop : o.op <;> rw [hop] at hc <;> first
  | (cases hc; done)
  | exact hv _
  | exact hu _
  | exact hp _ _ _
  | (intro h; simp at h; done)
  | exact hn.elim ⟨_, hop⟩
theorem Real.det {o : Oper} {F : Frame} {CS : List Frame} {w w' u' : World} {v u : Value} (hc : calm1 o.op = true) (h : Real B o ops F CS w v w') (h' : Real B o ops F CS w u u') : v = u ∧ w' = u' := by
 have hd : Does B.cx.P o F.eval w F CS v w' → Does B.cx.P o F.eval w F CS u u' → v = u ∧ w' = u' := by
  intro d d'
  rcases d with d | ⟨d, rfl⟩ | ⟨_, _, d, _⟩
  ·rcases d' with d' | ⟨d', rfl⟩ | ⟨_, _, d', _⟩
   ·rw [d] at d'; cases d'; exact ⟨rfl, rfl⟩
   ·rw [d] at d'; cases d'
   ·exact absurd d' (calm_enter hc)
  ·rcases d' with d' | ⟨d', rfl⟩ | ⟨_, _, d', _⟩
   ·rw [d] at d'; cases d'
   ·rw [d] at d'; cases d'; exact ⟨rfl, rfl⟩
   ·exact absurd d' (calm_enter hc)
  ·exact absurd d (calm_enter hc)
 rcases h with ⟨h1, rfl, rfl⟩ | ⟨h1, _, h3⟩
 ·rcases h' with ⟨_, rfl, rfl⟩ | ⟨h2, _⟩
  ·exact ⟨rfl, rfl⟩
  ·rw [h1] at h2; cases h2
 ·rcases h' with ⟨h2, _⟩ | ⟨_, _, h4⟩
  ·rw [h1] at h2; cases h2
  ·exact hd h3 h4
theorem dstep {L : Nat → Bool} {E : Env} {F : Frame} {i : Nat} {is : List Nat} {o : Oper} (hcx : CtxOK' B.cx) (hF : DFix B.cx s ops lo hi om r2 effs) (h : DInv B s ops lo hi r2 effs t T L E F Fs) (hcl : ∀ x, L x = true → ∀ j, befs ops x j = true → L j = true)
  (hl : lo ≤ i) (hi' : i < hi) (hLi : L i = false) (ho : ops[i]? = some o) (hr : ∀ e ∈ o.after, Region.binds .any e = true → L e.on = true) (ht : F.todo = .inRegion ops (i :: is) :: T) (htu : ∀ id, usesS id s = false → t.any (usesIt id) = false) :
  ∃ v w', Real B o ops F (Fs ++ cs0) E.m.w v w' ∧ ((isLk o.op = true → hitV v = om i) → ∃ E', E'.m.w = w' ∧ DInv B s ops lo hi r2 effs t T (adds L i) E' (F.finish v) Fs) := by
 have hsame : (∀ id b, (i, id, b) ∉ effs) → ∀ id, seen effs L s.heap id = seen effs (adds L i) s.heap id := fun hn id => seen_congr (fun j b hj => by
  by_cases e : j = i
  ·subst e; exact absurd hj (hn id b)
  ·rw [adds_ne e])
 obtain ⟨o2, ho2, rx, h1x, h2x, htold⟩ := hF.told i hl hi'
 rw [ho] at ho2; cases ho2
 have hknown : ∀ u, u ∈ looks ops o → CV E (look rx u) (F.tmps.getD u undef) := by
  intro u hu
  by_cases hex : ∃ j oj, lo ≤ j ∧ j < i ∧ ops[j]? = some oj ∧ oj.dst = some u
  ·rw [h1x u hex]
   obtain ⟨j, oj, hj, hj', hoj, hd⟩ := hex
   refine h.regs u (fun x o' hx hx' hL hox hd' => ?_)
   have hxj : x = j := by
    by_cases e : x = j
    ·exact e
    ·exact absurd hd' (hF.ok.apart x j o' oj u hx hx' hj (by omega) e hox hoj hd)
   subst hxj
   rcases hF.ok.look i x o oj u hl hi' hj (by omega) ho hoj hd hu with ⟨_, q2⟩ | q | q
   ·rw [ready_before ho hr hcl q2] at hL; cases hL
   ·omega
   ·have := befs_lt hF.edge x i q; omega
  ·rw [h2x u (fun j oj h1 h2 h3 h4 => hex ⟨j, oj, h1, h2, h3, h4⟩)]
   by_cases hex2 : ∃ x o', lo ≤ x ∧ x < hi ∧ ops[x]? = some o' ∧ o'.dst = some u
   ·obtain ⟨x, o', hx, hx', hox, hd⟩ := hex2
    have hLx : L x = false := by
     cases hq : L x with
     | false => rfl
     | true =>
      rcases hF.ok.look i x o o' u hl hi' hx hx' ho hox hd hu with ⟨q1, _⟩ | q | q
      ·exact absurd ⟨x, o', hx, q1, hox, hd⟩ hex
      ·subst q; rw [hLi] at hq; cases hq
      ·rw [hcl x hq i q] at hLi; cases hLi
    exact h.old u x o' hx hx' hLx hox hd
   ·have := h.regs u (fun x o' hx hx' _ hox hd => hex2 ⟨x, o', hx, hx', hox, hd⟩)
    rw [hF.regs u (fun x o' hx hx' hox hd => hex2 ⟨x, o', hx, hx', hox, hd⟩)] at this
    exact this
 have hav : ∀ x ∈ o.op.operands, CV E (opA B.cx rx x) (F.eval x) := by
  intro x hx
  have h0 := opA_ok h.ok h.fr.regs x
  cases x with
  | tmp u => exact hknown u (by unfold looks; exact List.mem_append_left _ (mem_opTmps hx))
  | const v => exact h0
  | global g => exact h0
  | func f => exact h0
 have nomk : (∀ id b, (i, id, b) ∉ effs) → ∀ id b w, (w, id, b) ∈ effs → isGrowE s ops (w, id, b) = true → ∀ oj, ops[i]? = some oj → allocOf s oj = some id → False := by
  intro hn id b w he hg oj hoj haj
  obtain ⟨o2, ho2, _, _, _, h4, _⟩ := hF.kind he
  obtain ⟨g1, g2⟩ := (isGrowE_iff ho2).1 hg
  rcases h4 with ⟨_, h4⟩ | ⟨h4, _⟩ | ⟨_, _, j, oj', j1, j2, hoj', haj', _, _, b1, hm⟩
  ·exact g2 h4
  ·rw [g1] at h4; cases h4
  ·have := apartOK_spec hF.apart hl hi' j1 j2 (by rw [hoj]; exact haj) (by rw [hoj']; exact haj')
   subst this
   exact hn id b1 hm
 rcases htold with ⟨j, want, t', hg, ht', hlk, hdst, hnone⟩ | ⟨hg, Hx, hHx, htold⟩
 ·have hc := hknown t' (by unfold looks; rw [hg]; simp [ht'])
  have hw : Region.wanted o (yielded ops F.tmps) = false := wanted_not hc hlk hg ht'
  exact ⟨undef, _, .inl ⟨hw, rfl, rfl⟩, fun _ => ⟨E, rfl, h.plain hF hl hi' ho ht h.ok (Keeps.refl E) (fun id => by rw [h.heap]; exact hsame hnone id) (fun d hd => by rw [hdst d hd]; exact cv_undef) (nomk hnone)⟩⟩
 ·have hw : Region.wanted o (yielded ops F.tmps) = true := by
   rcases hg with hg | ⟨j, want, t', hg, ht', hlk⟩
   ·exact wanted_none hg
   ·have hc := hknown t' (by unfold looks; rw [hg]; simp [ht'])
    rw [hlk] at hc
    rw [wanted_cv hc hg ht']; simp
  rcases htold with ⟨hns, _, a, new, hopf, hdst, hsome, honly⟩ | ⟨T', px, v, id, b, b0, p, hop, hpx, hb0, hlike, hst, hdst, hmem, honly⟩ | ⟨T', px, y, hh, tt, z, mm, z', q, hop, hpx, hmm, hM, hz, hq, hdst, hnone⟩ | ⟨j, id, u, b, b0, b1, oj, hns, _, hap, hbe, hoj, hapj, hdj, haj, hmj, hb0, _, hgr, hdst, hmem, honly⟩
  ·have hp := hopf E.H (AV × New) (fun a n => some (a, n)) (hF.sees hcx.globm hcl hl hi' hLi ho hr hns hHx h.heap h1x h2x)
   have hd : ∀ c, o.op ≠ .defer c := opg_no_defer hp
   obtain ⟨a', new', he, hfree⟩ := opg_ok (o := o) (ρ := F.eval) (F := F) (CS := Fs ++ cs0) h.ok hcx.toCtxOKb hav hp
   simp only [Option.some.injEq, Prod.mk.injEq] at he
   obtain ⟨rfl, rfl⟩ := he
   rcases hfree with hfree | ⟨b, v, w', q, rfl, rfl, hdo, hB, hbok, hv⟩
   ·rcases hfree with ⟨rfl, v, w', M', hdo, hW, hv⟩ | ⟨z, rfl, rfl, arr, el, hdo, hz⟩
    ·have hK : Keeps E (E.world w' M') := ⟨world_le h.ok hW, world_goes, rfl, world_dkeep h.ok hW⟩
     exact ⟨v, w', .inr ⟨hw, hd, hdo⟩, fun _ => ⟨E.world w' M', rfl, h.plain hF hl hi' ho ht (h.ok.world hW) hK (fun id => by rw [show (E.world w' M').H = E.H from rfl, h.heap]; exact hsame (fun id b hm => by have := (honly id b hm).1; cases this) id) (fun d hd => by rw [hdst d hd]; exact hv) (nomk fun id b hm => by have := (honly id b hm).1; cases this)⟩⟩
    ·obtain ⟨q1, q2⟩ := hsome _ rfl
     have happ : isApp o.op = false := by
      cases hq : isApp o.op with
      | false => rfl
      | true =>
       exfalso
       unfold isApp at hq
       split at hq
       ·rename_i hop
        rw [hop] at hp
        obtain ⟨_, _, _, e⟩ := opg_row hp
        cases e
       ·cases hq
     have hout : outA (hidAt ops hi i) (some (.box z false)) (.ptr (siteOf s o) []) = .ptr (siteOf s o) [] := by
      have : hidAt ops hi i = false := by
       unfold hidAt
       rw [List.any_eq_false]
       intro i' _
       unfold growsOn
       rw [ho]
       split
       ·rename_i e2
        cases e2
        rw [happ]
        simp
       ·simp
      rw [this]
      rfl
     exact ⟨_, _, .inr ⟨hw, hd, hdo⟩, fun _ => h.alloc (el := el) hF hcl hl hi' hLi ho ht htu q1 q2 hz (fun d hd => by rw [hdst d hd]; exact hout) happ⟩
   ·obtain ⟨q1, q2⟩ := hsome _ rfl
    refine ⟨v, w', .inr ⟨hw, hd, hdo⟩, fun _ => h.bound hF hcl hl hi' hLi ho ht htu q1 q2 hB hbok (fun d hd => ?_) fun _ _ _ _ _ _ => hv⟩
    rw [hdst d hd]
    simp only [outA, hidA]
    cases hidAt ops hi i with
    | false => exact hv
    | true =>
     obtain ⟨cs, h1, h2⟩ := hv
     unfold CC at h1
     obtain ⟨v1, e1, e2, _⟩ := h1
     exact ⟨cs, by unfold CC; exact ⟨v1, e1, e2⟩, h2⟩
  ·have hbefore : ∀ x b', (x, id, b') ∈ effs → L x = true → x < i := by
    intro x b' hx hLx
    rcases hF.chain hmem hx with e | e | e
    ·rw [e.1, hLi] at hLx; cases hLx
    ·exact befs_lt hF.edge i x e
    ·rw [hcl x hLx i e] at hLi; cases hLi
   have hb0E : hlook E.H id = some b0 := by
    rw [h.heap, ← hb0, hHx]
    refine (seen_congr (fun x b' hx => ?_)).symm
    rcases hF.chain hmem hx with e | e | e
    ·rw [e.1, hLi]; simp [lt]
    ·have hlt := befs_lt hF.edge i x e
     rw [ready_before ho hr hcl e]; simp [lt, hlt]
    ·have hlt := befs_lt hF.edge x i e
     have : L x = false := by
      cases hq : L x with
      | false => rfl
      | true => rw [hcl x hq i e] at hLi; cases hLi
     rw [this]
     have : ¬ x < i := by omega
     simp [lt, this]
   have hp : opw B.cx E.H (opA B.cx rx) 0 o.op (fun a H => some (a, H)) = some (AV.top, hset E.H id b) := by
    rw [hop]
    simp only [opw]
    exact hst E.H _ _ hb0E
   have hd : ∀ c, o.op ≠ .defer c := write_no_defer hp
   obtain ⟨a', H', he, hwr⟩ := opw_ok (o := o) (ρ := F.eval) (F := F) (CS := Fs ++ cs0) h.ok hcx.toCtxOKb hav hp
   simp only [Option.some.injEq, Prod.mk.injEq] at he
   obtain ⟨rfl, rfl⟩ := he
   rcases hwr with ⟨v, E', hdo, hs', hH', hK, hv, _⟩ | ⟨v, w', id', b', q, hab, _⟩
   ·refine ⟨v, E'.m.w, .inr ⟨hw, hd, hdo⟩, fun _ => ⟨E', rfl, h.plain hF hl hi' ho ht hs' hK (fun j => ?_) (fun d hd => by rw [hdst d hd]; trivial) (fun id b w he hg oj hoj haj => by rw [ho] at hoj; cases hoj; unfold allocOf at haj; rw [hop] at haj; cases haj)⟩⟩
    rw [hH', hlook_hset hb0E]
    by_cases e : id = j
    ·subst e
     rw [if_pos rfl, seen_last hF.srt hmem adds_self (fun x' b' hx hS => by
      rcases adds_inv hS with e | e
      ·omega
      ·have := hbefore x' b' hx e; omega)]
    ·rw [if_neg e, h.heap]
     refine seen_congr (fun x b2 hx => ?_)
     by_cases ex : x = i
     ·subst ex; exact absurd (honly j b2 hx).1.symm e
     ·rw [adds_ne ex]
   ·cases hab
  ·have hns : isStore o.op = false := by rw [hop]; rfl
   have hsees := hF.sees hcx.globm hcl hl hi' hLi ho hr hns hHx h.heap h1x h2x
   have hq' : toDat E.H mm.key (opA B.cx rx y) = some q := toDat_ext _ _ (hsees.same (by rw [hop]; rfl) (x := y) (by rw [hop]; simp [Op.operands])) hq
   have hd : ∀ c, o.op ≠ .defer c := fun c e => by rw [hop] at e; cases e
   obtain ⟨v, E', b, hdo, hs', hH', hK, hv⟩ := lookup_ok (o := o) (av := opA B.cx rx) (ρ := F.eval) (F := F) (CS := Fs ++ cs0) h.ok hcx.map hop (hav px (by rw [hop]; simp [Op.operands])) (hav y (by rw [hop]; simp [Op.operands])) hpx hmm hM hz hq'
   refine ⟨v, E'.m.w, .inr ⟨hw, hd, hdo⟩, fun hit => ⟨E', rfl, h.plain hF hl hi' ho ht hs' hK (fun id => by rw [hH', h.heap]; exact hsame hnone id) (fun d hd => ?_) (nomk hnone)⟩⟩
   have h1 := hit (by rw [hop]; rfl)
   rw [hit_lk hv] at h1
   rw [hdst d hd]
   cases hf : mm.f z' q with
   | none =>
    rw [hf] at hv
    have : lkA mm (om i) none = lkA mm b none := by cases om i <;> cases b <;> rfl
    rw [this]; exact hv
   | some u =>
    rw [hf] at h1 hv
    simp only [Option.isSome_some, Bool.and_true] at h1
    rw [← h1]; exact hv
  ·obtain ⟨w1, w2⟩ := hF.within j _ _ hmj
   have hji := befs_lt hF.edge i j hbe
   have hLj : L j = true := ready_before ho hr hcl hbe
   have hgrow : isGrowE s ops (i, id, b) = true := (isGrowE_iff ho).2 ⟨hns, fun ha => by
    have := apartOK_spec hF.apart hl hi' w1 w2 (by rw [ho]; exact ha) (by rw [hoj]; exact haj)
    omega⟩
   have hb0E : hlook E.H id = some b0 := by
    rw [h.heap, ← hb0, hHx]
    refine (seen_congr (fun x b' hx => ?_)).symm
    rcases hF.grown hmem hgrow hx with e | e
    ·rw [e.1, hLi]; simp [lt]
    ·obtain ⟨v1, v2⟩ := hF.within _ _ _ hx
     have := apartOK_spec hF.apart v1 v2 w1 w2 e (by rw [hoj]; exact haj)
     subst this
     rw [hLj]; simp [lt, hji]
   have hp := hgr E.H hb0E (hF.sees hcx.globm hcl hl hi' hLi ho hr hns hHx h.heap h1x h2x)
   have hd : ∀ c, o.op ≠ .defer c := write_no_defer hp
   have hmid := h.mid i id b hmem hgrow hLi j oj w1 w2 hoj haj hLj u hdj
   have hav2 : ∀ x ∈ o.op.operands, CV E (avO (opA B.cx rx) u id x) (F.eval x) := by
    intro x hx
    cases x with
    | tmp u' =>
     simp only [avO]
     by_cases e : u' = u
     ·subst e; rw [if_pos rfl]; exact hmid
     ·rw [if_neg e]; exact hav _ hx
    | const v => exact hav _ hx
    | global g => exact hav _ hx
    | func f => exact hav _ hx
   obtain ⟨a', H', he, hwr⟩ := opw_ok (o := o) (ρ := F.eval) (F := F) (CS := Fs ++ cs0) h.ok hcx.toCtxOKb hav2 hp
   simp only [Option.some.injEq, Prod.mk.injEq] at he
   obtain ⟨rfl, rfl⟩ := he
   rcases hwr with ⟨v, E', _, _, _, _, _, hno⟩ | ⟨v, w', id', b', q, e1, e2, hdo, hB, hbok, hv⟩
   ·exact absurd rfl (hno id)
   ·cases e1
    simp only [List.cons.injEq, Prod.mk.injEq, true_and, and_true] at e2
    subst e2
    exact ⟨v, w', .inr ⟨hw, hd, hdo⟩, fun _ => h.grows hF hl hi' hLi ho ht htu hgrow hmem w1 w2 hoj haj hbe hB hbok fun d hd => by rw [hdst d hd]; exact hv⟩
def updB (om : Nat → Bool) (i : Nat) (b : Bool) : Nat → Bool := fun x => if x = i then b else om x
structure Fam (B : Base) (s : Cf) (ops : Array Oper) (lo hi : Nat) (t : List It) (T : List Item) (Fs : List Frame) (K : Regs → Heap → Effs → Prop) (P : (Nat → Bool) → Prop) (L : Nat → Bool) (F : Frame) (w : World) : Prop where
 any1 : ∃ om, P om
 run : ∀ om, P om → ∃ r2 effs H2 E, DFix B.cx s ops lo hi om r2 effs ∧ K r2 H2 effs ∧ E.m.w = w ∧ DInv B s ops lo hi r2 effs t T L E F Fs
 other : ∀ om i o b, P om → lo ≤ i → i < hi → ops[i]? = some o → isLk o.op = true → L i = false → P (updB om i b)
 one : (∀ om om', P om → P om' → om = om') ∨ ∀ i o, lo ≤ i → i < hi → ops[i]? = some o → calm1 o.op = true
theorem fstep {K : Regs → Heap → Effs → Prop} {P : (Nat → Bool) → Prop} {L : Nat → Bool} {F : Frame} {w : World} {i : Nat} {is : List Nat} {o : Oper} (hcx : CtxOK' B.cx) (h : Fam B s ops lo hi t T Fs K P L F w) (hcl : ∀ x, L x = true → ∀ j, befs ops x j = true → L j = true)
  (hl : lo ≤ i) (hi' : i < hi) (hLi : L i = false) (ho : ops[i]? = some o) (hr : ∀ e ∈ o.after, Region.binds .any e = true → L e.on = true) (ht : F.todo = .inRegion ops (i :: is) :: T) (htu : ∀ id, usesS id s = false → t.any (usesIt id) = false) :
  ∃ P' F' w', Steps B.cx.P (lone F (Fs ++ cs0) w) (lone F' (Fs ++ cs0) w') ∧ Fam B s ops lo hi t T Fs K P' (adds L i) F' w' ∧ F'.todo = .inRegion ops is :: T ∧ F'.fn = F.fn := by
 obtain ⟨om, hom⟩ := h.any1
 obtain ⟨r2, effs, H2, E, hF, hK, rfl, hI⟩ := h.run om hom
 obtain ⟨v, w', hreal, hnext⟩ := dstep (cs0 := cs0) hcx hF hI hcl hl hi' hLi ho hr ht htu
 refine ⟨fun om' => P om' ∧ (isLk o.op = true → hitV v = om' i), F.finish v, w', hreal.steps hI.fr.mode ht ho, ⟨?_, ?_, ?_, ?_⟩, by rw [finish_eq ht ho], by rw [finish_eq ht ho]⟩
 ·cases hlk : isLk o.op with
  | false => exact ⟨om, hom, fun e => by cases e⟩
  | true => exact ⟨updB om i (hitV v), h.other om i o _ hom hl hi' ho hlk hLi, fun _ => by simp [updB]⟩
 ·rintro om' ⟨hp, hit⟩
  by_cases e : om' = om
  ·subst e
   obtain ⟨E', h1, h2⟩ := hnext hit
   exact ⟨r2, effs, H2, E', hF, hK, h1, h2⟩
  ·have hc : calm1 o.op = true := by
    rcases h.one with h1 | h1
    ·exact absurd (h1 om' om hp hom) e
    ·exact h1 i o hl hi' ho
   obtain ⟨r3, effs3, H3, E3, hF3, hK3, hw3, hI3⟩ := h.run om' hp
   obtain ⟨v3, w3, hreal3, hnext3⟩ := dstep (cs0 := cs0) hcx hF3 hI3 hcl hl hi' hLi ho hr ht htu
   rw [hw3] at hreal3
   obtain ⟨rfl, rfl⟩ := hreal.det hc hreal3
   obtain ⟨E', h1, h2⟩ := hnext3 hit
   exact ⟨r3, effs3, H3, E', hF3, hK3, h1, h2⟩
 ·rintro om' j o' b ⟨hp, hit⟩ hj hj' ho' hlk hL
  obtain ⟨hne, hL⟩ := adds_not hL
  exact ⟨h.other om' j o' b hp hj hj' ho' hlk hL, fun e => by simp only [updB, if_neg (Ne.symm hne)]; exact hit e⟩
 ·rcases h.one with h1 | h1
  ·exact .inl fun a b ha hb => h1 a b ha.1 hb.1
  ·exact .inr h1
theorem drun {K : Regs → Heap → Effs → Prop} (hcx : CtxOK' B.cx) (hedge : ∀ i o, ops[i]? = some o → ∀ e ∈ o.after, Region.binds .any e = true → e.on < i) (hle : hi ≤ ops.size) (hrest : ∀ i j, hi ≤ i → i < ops.size → j < hi → befs ops i j = true) (htu : ∀ id, usesS id s = false → t.any (usesIt id) = false) : ∀ (fuel tt : Nat) (listed : Array Bool) (P : (Nat → Bool) → Prop) (F : Frame) (w : World), listed.size = ops.size → listed.toList.count false = fuel →
  (∀ x, listed.getD x false = true → ∀ j, befs ops x j = true → listed.getD j false = true) → (∀ x, listed.getD x false = true → x < hi) → (∀ x, x < lo → listed.getD x false = true) → Fam B s ops lo hi t T Fs K P (fun x => listed.getD x false) F w → F.todo = .inRegion ops (Region.linearise.go .any ops fuel tt listed []) :: T →
  ∃ P' F' w' l, Steps B.cx.P (lone F (Fs ++ cs0) w) (lone F' (Fs ++ cs0) w') ∧ Fam B s ops lo hi t T Fs K P' (lt hi) F' w' ∧ Left ops hi l ∧ F'.todo = .inRegion ops l :: T ∧ F'.fn = F.fn := by
 intro fuel
 induction fuel with
 | zero =>
  intro tt listed P F w hs hc hcl hLm hLo h ht
  have hall : ∀ x, x < hi → listed.getD x false = true := getD_all hs hle hc
  have e : (fun x => listed.getD x false) = lt hi := by
   funext x
   cases hq : listed.getD x false with
   | true => simp [lt, hLm x hq]
   | false =>
    rcases Nat.lt_or_ge x hi with h1 | h1
    ·rw [hall x h1] at hq; cases hq
    ·simp [lt, h1]
  rw [e] at h
  exact ⟨P, F, w, _, .refl _ _, h, ⟨hedge, hle, 0, tt, listed, hs, hc, fun x => ⟨hLm x, hall x⟩, rfl⟩, ht, rfl⟩
 | succ fuel ih =>
  intro tt listed P F w hs hc hcl hLm hLo h ht
  by_cases hall : ∀ x, x < hi → listed.getD x false = true
  ·have e : (fun x => listed.getD x false) = lt hi := by
    funext x
    cases hq : listed.getD x false with
    | true => simp [lt, hLm x hq]
    | false =>
     rcases Nat.lt_or_ge x hi with h1 | h1
     ·rw [hall x h1] at hq; cases hq
     ·simp [lt, h1]
   rw [e] at h
   exact ⟨P, F, w, _, .refl _ _, h, ⟨hedge, hle, _, tt, listed, hs, hc, fun x => ⟨hLm x, hall x⟩, rfl⟩, ht, rfl⟩
  ·have hun := unlisted_of_count hc
   obtain ⟨i, hgi, hmem⟩ := ready_some hedge hs hun tt
   rw [go_succ, hgi] at ht
   simp only at ht
   rw [mem_ready] at hmem
   obtain ⟨h1, o, ho, h2⟩ := hmem
   have hlt := (Array.getElem?_eq_some_iff.1 ho).1
   have h1' : listed.getD i false = false := by rw [← getD_flip (by omega)]; exact h1
   have him : i < hi := by
    rcases Nat.lt_or_ge i hi with h3 | h3
    ·exact h3
    ·exfalso
     apply hall
     intro x hx
     exact ready_before (L := fun x => listed.getD x false) ho h2 hcl (hrest i x h3 hlt hx)
   have hil : lo ≤ i := by
    rcases Nat.lt_or_ge i lo with h3 | h3
    ·rw [hLo i h3] at h1'; cases h1'
    ·exact h3
   obtain ⟨P1, F1, w1, q1, q2, q3, q4⟩ := fstep (cs0 := cs0) hcx h hcl hil him h1' ho h2 ht htu
   have e : adds (fun x => listed.getD x false) i = fun x => (listed.setIfInBounds i true).getD x false := by
    funext x; rw [getD_listed (by omega)]
   rw [e] at q2
   obtain ⟨P2, F2, w2, l, p1, p2, p3, p4, p5⟩ := ih _ (listed.setIfInBounds i true) P1 F1 w1 (by simp [hs]) (count_listed hc (by omega) h1') (fun x hx j hj => by
    rw [getD_listed (by omega)] at hx ⊢
    rcases adds_inv hx with e | hx
    ·subst e; exact adds_old (ready_before (L := fun x => listed.getD x false) ho h2 hcl hj)
    ·exact adds_old (hcl x hx j hj)) (fun x hx => by
    rw [getD_listed (by omega)] at hx
    rcases adds_inv hx with e | hx
    ·omega
    ·exact hLm x hx) (fun x hx => by rw [getD_listed (by omega)]; exact adds_old (hLo x hx)) q2 q3
   exact ⟨P2, F2, w2, l, q1.trans p1, p2, p3, p4, by rw [p5, q4]⟩
end
theorem Left.nil {ops : Array Oper} {l : List Nat} (h : Left ops ops.size l) : l = [] := by
 obtain ⟨_, _, fuel, tt, listed, hs, hc, hL, rfl⟩ := h
 cases fuel with
 | zero => rfl
 | succ f =>
  exfalso
  obtain ⟨i, hi, hq⟩ := unlisted_of_count hc
  rw [(hL i).2 (by omega)] at hq; cases hq
theorem Left.head {ops : Array Oper} {lo : Nat} {l : List Nat} (h : Left ops lo l) (hlo : lo < ops.size) (hb : ∀ i, lo + 1 ≤ i → i < ops.size → befs ops i lo = true) : ∃ l', l = lo :: l' ∧ Left ops (lo + 1) l' := by
 obtain ⟨hedge, _, fuel, tt, listed, hs, hc, hL, rfl⟩ := h
 have hlof : listed.getD lo false = false := by
  cases hq : listed.getD lo false with
  | false => rfl
  | true => have := (hL lo).1 hq; omega
 cases fuel with
 | zero =>
  rw [getD_all hs (Nat.le_refl _) hc lo hlo] at hlof; cases hlof
 | succ f =>
  have hun := unlisted_of_count hc
  obtain ⟨i, hi, hmem⟩ := ready_some hedge hs hun tt
  rw [go_succ, hi]
  simp only
  rw [mem_ready] at hmem
  obtain ⟨h1, o, ho, h2⟩ := hmem
  have hlt := (Array.getElem?_eq_some_iff.1 ho).1
  have h1' : listed.getD i false = false := by rw [← getD_flip (by omega)]; exact h1
  have hge : lo ≤ i := by
   rcases Nat.lt_or_ge i lo with h3 | h3
   ·rw [(hL i).2 h3] at h1'; cases h1'
   ·exact h3
  have hil : i = lo := by
   rcases Nat.lt_or_ge lo i with h3 | h3
   ·exfalso
    have := ready_before (L := fun x => listed.getD x false) ho h2 (fun x hx j hj => (hL j).2 (by
     have := befs_lt hedge x j hj
     have := (hL x).1 hx
     omega)) (hb i (by omega) hlt)
    simp only [hlof] at this; cases this
   ·omega
  subst hil
  refine ⟨_, rfl, hedge, hlo, f, _, listed.setIfInBounds i true, by simp [hs], count_listed hc (by omega) h1', fun x => ?_, rfl⟩
  rw [getD_listed (by omega)]
  constructor
  ·intro hx
   rcases adds_inv hx with e | hx
   ·omega
   ·have := (hL x).1 hx; omega
  ·intro hx
   by_cases e : x = i
   ·subst e; exact adds_self
   ·exact adds_old ((hL x).2 (by omega))
section
variable {R : Type} {B : Base} {E : Env} {s : Cf} {F : Frame} {Fs cs0 : List Frame} {k : Cf → Option R} {out : AV → Heap → Option R} {r : R}
theorem drawn_ok {t : List It} {id : Nat} {ops : Array Oper} (hcx : CtxOK' B.cx) (hS : Sim B E s F Fs) (ht : s.fr.todo = .code (.region id ops true) :: t) (h : step B.cx s k out = some r) : StepOK B cs0 E F Fs k out r := by
 simp only [step, ht] at h
 obtain ⟨j, T, e, hj, hT⟩ := All2.cons_inv (by rw [← ht]; exact hS.fr.todo)
 cases hj
 cases hq : edgeOK ops with
 | false => rw [hq] at h; cases h
 | true =>
  rw [hq, cond_true] at h
  obtain ⟨tt, hst⟩ := m_draw (P := B.cx.P) (cs := Fs ++ cs0) (w := E.m.w) hS.fr.mode e
  rw [show Region.schedule (B.cx.P.follows .mixedOrders) ops tt = Region.linearise.go .any ops ops.size tt (Array.replicate ops.size false) [] from by simp [Region.schedule, hcx.mixed, Region.linearise]] at hst
  have hW : WorldOK B E E.m.w.drew E.m.M := by
   refine ⟨Nat.le_refl _, rfl, rfl, rfl, fun _ _ => .inl rfl, fun _ _ h => h, hS.ok.late, ?_⟩
   intro km i t y hk
   obtain ⟨es, clock, mm, x, h1, h2, h3, h4⟩ := hS.ok.memo km i t y hk
   have hle : E.m.le (E.world E.m.w.drew E.m.M).m := ⟨fun _ _ _ h h' => ⟨h, h'⟩, fun _ _ h => h, fun _ _ h => h⟩
   exact ⟨es, clock, mm, x, h1, h2, h3, fun z hz => let ⟨kx, vx, a, b, c⟩ := h4 z hz; ⟨kx, vx, a.mono hle, b.mono hle, c⟩⟩
  have hK1 : Keeps E (E.world E.m.w.drew E.m.M) := ⟨world_le hS.ok hW, world_goes, rfl, world_dkeep hS.ok hW⟩
  have hfr1 := hS.fr.keeps hK1
  have hrep : ∀ x, (Array.replicate ops.size false).getD x false = false := by
   intro x
   rw [Array.getD_eq_getD_getElem?, Array.getElem?_replicate]
   split <;> rfl
  have hleft : Left ops 0 (Region.linearise.go .any ops ops.size tt (Array.replicate ops.size false) []) :=
   ⟨edgeOK_spec hq, Nat.zero_le _, ops.size, tt, Array.replicate ops.size false, by simp, by simp, fun x => by rw [hrep x]; simp, rfl⟩
  have hT1 : ItsOK (E.world E.m.w.drew E.m.M).ρ t T := by
   have := hfr1.todo
   rw [ht, e] at this
   cases this with
   | cons p q => exact q
  have hS1 : Sim B (E.world E.m.w.drew E.m.M) s F Fs := ⟨hS.heap, hS.ok.world hW, hfr1, hS.callers.mono fun _ _ c => FrOK.keeps hK1 c, hS.nd, hS.base⟩
  exact .inl ⟨_, _, _, Fs, h, hS1.todo (.cons (.inDraw ops 0 _ hleft) hT1), hst, bot_todo⟩
theorem usesH_lend1 (id j : Nat) : ∀ H : Heap, usesH id (lend1 j H) = usesH id H
 | [] => rfl
 | (i, b) :: H => by
  simp only [lend1]
  split
  ·cases b <;> rfl
  ·have := usesH_lend1 id j H
   simp only [usesH, List.any_cons] at this ⊢
   rw [this]
mutual
theorem usesH_lendA (id : Nat) : (a : AV) → ∀ H : Heap, usesH id (lendA a H) = usesH id H
 | .agg fs, H | .arrL fs, H | .tup fs, H => by simp only [lendA]; exact usesH_lendL id fs H
 | .row j, H | .sub j _ _, H => by simp only [lendA]; exact usesH_lend1 id j H
 | .dat _ _, H | .ptr _ _, H | .cptr _ _, H | .hp _ _ _, H | .full _ _, H | .hmp _ _ _, H | .hm _ _ _, H | .nilsl, H | .nilp, H | .nilf, H | .nilm, H | .fn _ _ _, H | .yld _, H | .any, H | .top, H => by simp only [lendA]
theorem usesH_lendL (id : Nat) : (as : List AV) → ∀ H : Heap, usesH id (lendL as H) = usesH id H
 | [], H => by simp only [lendL]
 | a :: as, H => by simp only [lendL]; rw [usesH_lendL id as, usesH_lendA id a]
end
theorem usesS_lend (cx : Ctx) (s : Cf) (ops : Array Oper) (lo hi id : Nat) : usesS id (lendGrp cx s ops lo hi) = usesS id s := by
 simp only [usesS, lendGrp, usesH_lendL]
theorem menB_less {id : Nat} {b b' : Blk} (h : Less b' b) (hb : menB id b = false) : menB id b' = false := by
 cases h <;> exact hb
theorem NoMen.lend {id : Nat} {cx : Ctx} {s : Cf} {ops : Array Oper} {lo hi : Nat} (h : NoMen id s) : NoMen id (lendGrp cx s ops lo hi) := by
 refine ⟨h.fr, h.callers, fun j b hb => ?_, ?_⟩
 ·obtain ⟨c, h1, h2⟩ := lendL_less _ _ j b hb
  exact menB_less h2 (h.heap j c h1)
 ·cases hl : hlook (lendGrp cx s ops lo hi).heap id with
  | none => rfl
  | some b =>
   obtain ⟨c, h1, _⟩ := lendL_less _ _ id b hl
   rw [h.none] at h1
   cases h1
theorem allocOf_lend (cx : Ctx) (s : Cf) (ops : Array Oper) (lo hi : Nat) (o : Oper) : allocOf (lendGrp cx s ops lo hi) o = allocOf s o := rfl
theorem apartOK_lend (cx : Ctx) (s : Cf) (ops : Array Oper) (lo hi : Nat) : apartOK (lendGrp cx s ops lo hi) ops lo hi = apartOK s ops lo hi := rfl
theorem left_ok {t : List It} {lo : Nat} {ops : Array Oper} (hcx : CtxOK' B.cx) (hS : Sim B E s F Fs) (ht : s.fr.todo = .inDraw ops lo :: t) (h : step B.cx s k out = some r) : StepOK B cs0 E F Fs k out r := by
 simp only [step, ht] at h
 obtain ⟨j, T, e, hj, hT⟩ := All2.cons_inv (by rw [← ht]; exact hS.fr.todo)
 cases hj with
 | inDraw _ _ l hleft =>
  cases hend : Nat.beq lo ops.size with
  | true =>
   rw [hend, cond_true] at h
   have := Nat.eq_of_beq_eq_true hend
   subst this
   have := hleft.nil
   subst this
   exact .todo hS hT h (m_regionEnd hS.fr.mode e)
  | false =>
   rw [hend, cond_false] at h
   have hne : lo ≠ ops.size := fun e => by subst e; rw [Nat.beq_refl] at hend; cases hend
   have hlo : lo < ops.size := by have := hleft.2.1; omega
   obtain ⟨hb1, hb2, hb3⟩ := nextB_spec hlo
   generalize hhi : nextB ops lo = hi at h hb1 hb2 hb3
   cases hsingle : Nat.beq hi (lo + 1) with
   | true =>
    rw [hsingle, cond_true] at h
    have hh := Nat.eq_of_beq_eq_true hsingle
    obtain ⟨l', rfl, hleft'⟩ := hleft.head hlo (fun i h1 h2 => hb3 i lo (by omega) h2 (by omega))
    have hS1 : Sim B E (setTodo s (.inDrawAt ops lo :: t)) F Fs := by
     have := hS.todo (t := .inDrawAt ops lo :: t) (T := .inRegion ops (lo :: l') :: T) (.cons (.inDrawAt ops lo l' hleft') hT)
     rw [← e] at this
     exact this
    exact oper_ok hcx hS1 rfl rfl h
   | false =>
    rw [hsingle, cond_false] at h
    split at h
    ·rename_i hcond
     simp only [Bool.and_eq_true, List.all_eq_true, Bool.not_eq_true'] at hcond
     obtain ⟨⟨⟨hd, hap⟩, hids⟩, hlks⟩ := hcond
     obtain ⟨E0, hS0, hw0, hno0, _, hus0⟩ := hS.purgeAll hids
     obtain ⟨hn1, hfn1, hlen1, htodo1⟩ := purgeAll_same (allocsOf s ops lo hi) s
     have hless0 : HLess (lendGrp B.cx (purgeAll s (allocsOf s ops lo hi)) ops lo hi).heap E0.H := by rw [← hS0.heap]; exact lendL_less _ _
     have hS1 := hS0.less hless0
     have hw1 : (E0.less B (lendGrp B.cx (purgeAll s (allocsOf s ops lo hi)) ops lo hi).heap).m.w = E.m.w := hw0
     have hno : ∀ id ∈ allocsOf s ops lo hi, NoMen id (lendGrp B.cx (purgeAll s (allocsOf s ops lo hi)) ops lo hi) := fun id h => (hno0 id h).lend
     have hus : ∀ id, usesS id s = false → usesS id (lendGrp B.cx (purgeAll s (allocsOf s ops lo hi)) ops lo hi) = false := fun id h => by rw [usesS_lend]; exact hus0 id h
     have hal : ∀ o, allocOf (lendGrp B.cx (purgeAll s (allocsOf s ops lo hi)) ops lo hi) o = allocOf s o := fun o => by rw [allocOf_lend, allocOf_purgeAll]
     have hapl : apartOK (lendGrp B.cx (purgeAll s (allocsOf s ops lo hi)) ops lo hi) ops lo hi = apartOK s ops lo hi := by rw [apartOK_lend, apartOK_purgeAll]
     have hn1 : (lendGrp B.cx (purgeAll s (allocsOf s ops lo hi)) ops lo hi).fr.n = s.fr.n := hn1
     have htodo1 : (lendGrp B.cx (purgeAll s (allocsOf s ops lo hi)) ops lo hi).fr.todo = s.fr.todo := htodo1
     change Sim B _ (lendGrp B.cx (purgeAll s (allocsOf s ops lo hi)) ops lo hi) F Fs at hS1
     generalize hE1 : E0.less B (lendGrp B.cx (purgeAll s (allocsOf s ops lo hi)) ops lo hi).heap = E1 at *
     generalize hs1 : lendGrp B.cx (purgeAll s (allocsOf s ops lo hi)) ops lo hi = s1 at *
     have hids' : ∀ x o id, lo ≤ x → x < hi → ops[x]? = some o → allocOf s1 o = some id → id ∈ allocsOf s ops lo hi := by
      intro x o id hx hx' ho ha
      rw [hal] at ha
      exact List.mem_filterMap.2 ⟨x, mem_grp.2 ⟨hx, hx'⟩, by rw [ho]; exact ha⟩
     have hd1 : DrawOK ops s1.fr.n lo hi := by rw [hn1]; exact drawOK_spec hd
     have hap1 : apartOK s1 ops lo hi = true := by rw [hapl]; exact hap
     have told := fun om => runGrp_told om hd1 rfl (H0 := s1.heap) (r0 := s1.fr.regs) (hi - lo) lo s1.fr.regs s1.heap [] (Nat.le_refl _) (by omega) (fun _ _ => rfl) (fun _ _ _ hj => by simp at hj) (fun id => rfl) h
     obtain ⟨hedge, _, fuel, tt, listed, hs, hc, hL, hgo⟩ := hleft
     have htu : ∀ id, usesS id s1 = false → t.any (usesIt id) = false := by
      intro id' hu
      have htodo : s1.fr.todo = .inDraw ops lo :: t := by rw [htodo1, ht]
      simp only [usesS, usesF, Bool.or_eq_false_iff, htodo, List.any_cons] at hu
      exact hu.1.1.1.2.2
     have hT1 : ItsOK E1.ρ t T := by
      have := hS1.fr.todo
      rw [htodo1, ht, e] at this
      cases this with
      | cons p q => exact q
     have start : ∀ om, ∃ r2 effs H2 E, DFix B.cx s1 ops lo hi om r2 effs ∧ (k { s1 with fr := { s1.fr with regs := r2, todo := .inDraw ops hi :: t }, heap := H2 } = some r ∧ ∀ id, hlook H2 id = seen effs (lt hi) s1.heap id) ∧ E.m.w = E1.m.w ∧ DInv B s1 ops lo hi r2 effs t T (fun x => listed.getD x false) E F Fs := by
      intro om
      obtain ⟨r2, H2, nw, hk, q1, ⟨q2, qs⟩, q3, q4⟩ := told om
      rw [List.append_nil] at hk q3 q4
      split at hk
      ·rename_i hmen
       rw [Bool.and_eq_true, Bool.and_eq_true] at hmen
       have hF : DFix B.cx s1 ops lo hi om r2 nw :=
        { edge := hedge, ok := hd1, apart := hap1, told := q4, regs := q1, within := q2, srt := qs, men := hmen.1.1, sets := hmen.1.2, grow := hmen.2,
          no := fun x o id hx hx' ho ha => ⟨hno id (hids' x o id hx hx' ho ha), hus id (hids id (hids' x o id hx hx' ho ha))⟩, le := hb2, rest := hb3 }
       refine ⟨r2, nw, H2, E1, hF, ⟨hk, q3⟩, rfl, ?_⟩
       refine ⟨hS1.ok, fun id => ?_, fun u hu => ?_, fun u _ _ _ _ _ _ _ => hS1.fr.regs.2 u, ?_, hS1.callers, hS1.nd, hS1.base, fun _ _ _ _ _ _ j oj hj1 hj2 _ _ hLj _ _ => by have := (hL j).1 hLj; omega⟩
       ·rw [← hS1.heap]
        refine (seen_none (fun j b hj => ?_)).symm
        cases hq : listed.getD j false with
        | false => rfl
        | true => have := (hL j).1 hq; have := (q2 j id b hj).1; omega
       ·rw [hF.regs u (fun x o hx hx' ho => hu x o hx hx' (by
         cases hq : listed.getD x false with
         | false => rfl
         | true => have := (hL x).1 hq; omega) ho)]
        exact hS1.fr.regs.2 u
       ·exact ⟨hS1.fr.fn, ⟨hS1.fr.regs.1, fun _ => trivial⟩, hT1, hS1.fr.round, hS1.fr.defers, hS1.fr.mode, hS1.fr.kind⟩
      ·cases hk
     have family : ∃ P, Fam B s1 ops lo hi t T Fs (fun r2 H2 effs => k { s1 with fr := { s1.fr with regs := r2, todo := .inDraw ops hi :: t }, heap := H2 } = some r ∧ ∀ id, hlook H2 id = seen effs (lt hi) s1.heap id) P (fun x => listed.getD x false) F E1.m.w := by
      unfold lkOK at hlks
      rw [Bool.or_eq_true] at hlks
      rcases hlks with hlks | hlks
      ·refine ⟨fun om => om = fun _ => false, ⟨⟨_, rfl⟩, fun om _ => start om, fun om i o b _ hi1 hi2 ho hlk _ => ?_, .inl fun a b ha hb => by rw [ha, hb]⟩⟩
       rw [Bool.not_eq_true', List.any_eq_false] at hlks
       have := hlks i (mem_grp.2 ⟨hi1, hi2⟩)
       rw [ho] at this
       exact absurd hlk this
      ·refine ⟨fun _ => True, ⟨⟨fun _ => false, trivial⟩, fun om _ => start om, fun _ _ _ _ _ _ _ _ _ _ => trivial, .inr fun i o hi1 hi2 ho => ?_⟩⟩
       rw [List.all_eq_true] at hlks
       have := hlks i (mem_grp.2 ⟨hi1, hi2⟩)
       rw [ho] at this
       exact this
     obtain ⟨P0, hfam⟩ := family
     obtain ⟨P3, F3, w3, l3, p1, p2, p3, p4, p5⟩ := drun (cs0 := cs0) hcx hedge hb2 hb3 htu fuel tt listed P0 F E1.m.w hs hc (fun x hx j hj => (hL j).2 (by
      have := befs_lt hedge x j hj
      have := (hL x).1 hx
      omega)) (fun x hx => by have := (hL x).1 hx; omega) (fun x hx => (hL x).2 hx) hfam (by rw [e, hgo])
     obtain ⟨om, hom⟩ := p2.any1
     obtain ⟨r2, nw, H2, E3, hF, ⟨hk, q3⟩, rfl, pI⟩ := p2.run om hom
     clear p2
     have p2 := pI
     have hless : HLess H2 E3.H := by
      intro j b hj
      exact ⟨b, by rw [p2.heap, ← q3]; exact hj, .refl _⟩
     have hK3 := less_keeps p2.ok hless
     rw [hw1] at p1
     refine .inl ⟨_, E3.less B H2, F3, Fs, hk, ⟨rfl, p2.ok.less hless, ?_, p2.callers.mono fun _ _ c => FrOK.keeps hK3 c, p2.nd, p2.base⟩, p1, ?_⟩
     ·have hfr := p2.fr.keeps hK3
      refine ⟨hfr.fn, ⟨hfr.regs.1, fun u => ?_⟩, ?_, hfr.round, hfr.defers, hfr.mode, hfr.kind⟩
      ·exact hK3.cv (p2.regs u (fun x o hx hx' hL _ => by simp [lt] at hL; omega))
      ·rw [p4]
       exact .cons (.inDraw ops hi l3 p3) hfr.todo
     ·cases Fs with
      | nil => exact p5
      | cons _ _ => rfl
    ·cases h
theorem step_ok (hcx : CtxOK' B.cx) (hS : Sim B E s F Fs) (h : step B.cx s k out = some r) : StepOK B cs0 E F Fs k out r := by
 cases ht : s.fr.todo with
 | nil => exact end_ok hcx.te hS ht h
 | cons i t =>
  cases i with
  | code c =>
   cases c with
   | region id ops d =>
    cases d with
    | true => exact drawn_ok hcx hS ht h
    | false => exact code_ok hcx.te hS ht (by intros; simp) (by intros; simp) h
   | rangeFunc f ps a b => exact range_ok hcx hS ht h
   | _ => exact code_ok hcx.te hS ht (by intros; simp) (by intros; simp) h
  | inRegion ops l =>
   cases l with
   | nil => exact item_ok hcx.te hS ht (by intros; simp) (by intros; simp) (by intros; simp) h
   | cons j l =>
    simp only [step, ht] at h
    cases hmk : isMk ops j with
    | true => rw [hmk, cond_true] at h; exact mkm_ok hS ht h
    | false => rw [hmk, cond_false] at h; exact oper_ok hcx hS ht rfl h
  | inDraw ops lo => exact left_ok hcx hS ht h
  | _ => exact item_ok hcx.te hS ht (by intros; simp) (by intros; simp) (by intros; simp) h
end
end Go.Gh
