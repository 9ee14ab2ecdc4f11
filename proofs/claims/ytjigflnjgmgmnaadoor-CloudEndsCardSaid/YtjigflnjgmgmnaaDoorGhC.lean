/- The ghost machine: single operations. Conditions: none (definitions, and lemmas on them). -/
import Derived.Test.YtjigflnjgmgmnaaDoorGhB
import Derived.Laws.Sem
import Derived.Laws.Cells
import Derived.Laws.AppendOwn
namespace Go.Gh
def isAggD : TypeDesc → Bool
 | .struct _ | .array _ _ => true
 | _ => false
def DOK (P : Program) : TD → TypeDesc → Prop
 | .int k, d => d = .int k
 | .struct offs szs, d => ∃ fs, d = .struct fs ∧ fs.size = offs.length ∧ fs.size = szs.length ∧ ∀ (k off : Nat), offs[k]? = some off → ∃ (f : Field) (i : TypeInfo), (fs : Array Field)[k]? = some f ∧ f.offset = off ∧ P.info? f.type = some i ∧ i.size ≠ 0 ∧ szs[k]? = some i.size
 | .array n e esz, d => d = .array n e ∧ ∃ i, P.info? e = some i ∧ i.size = esz
 | .slice e esz, d => d = .slice e ∧ ∃ i, P.info? e = some i ∧ i.size = esz ∧ i.bytes ≤ 65536
 | .other, _ => True
structure EqTy (P : Program) (T : TypeId) (t : Ty) : Prop where
 eq : ∀ (m : Mem) (x y : den t) (u v : Value) (w : World), EV m t x u → EV m t y v → (Op.equal T u v).run P w = .ok (eqD t x y) w
 guard : t.isAgg = true → P.eqGuardType P.depth T = false
 plain : (∀ i s, t ≠ .hnd i s) ∧ (∀ s, t ≠ .slice s)
structure TEok (P : Program) (T : TypeId) (te : TE) : Prop where
 info : ∃ i, P.info? T = some i ∧ i.size = te.size
 pos : 1 ≤ te.size
 desc : ∃ d, P.underlying T = some d ∧ te.agg = isAggD d ∧ DOK P te.d d
 ty : ∀ t, te.ty = some t → size t = te.size ∧ t.isAgg = te.agg ∧ (te.eq = true → EqTy P T t)
 bytes : ∀ t, te.ty = some t → ∀ i, P.info? T = some i → i.bytes ≤ bytesT t
 zero : ∀ z, te.zero = some z → cells z = te.size ∧ z.isAgg = te.agg ∧ ∃ i zv, P.info? T = some i ∧ i.zero = some zv ∧ ∀ E, ∃ cs, CC E z cs ∧ ofCells z.isAgg cs zv
section
variable {P : Program} {T : TypeId} {w : World}
theorem run_und {d : TypeDesc} (h : P.underlying T = some d) : (underlying T).run P w = .ok d w := by simp [underlying, h]
theorem run_inf {i : TypeInfo} (h : P.info? T = some i) : (typeInfo T).run P w = .ok i w := by simp [typeInfo, h]
theorem run_siz {i : TypeInfo} (h : P.info? T = some i) : (sizeOf T).run P w = .ok i.size w := by simp [sizeOf, run_inf h]
theorem run_zer {i : TypeInfo} {v : Value} (h : P.info? T = some i) (hz : i.zero = some v) : (zeroValue T).run P w = .ok v w := by simp [zeroValue, run_inf h, hz]
theorem run_isa {d : TypeDesc} (h : P.underlying T = some d) : (isAgg T).run P w = .ok (isAggD d) w := by
 simp only [isAgg, Sem.run_bind, run_und h, Result.andThen_ok]
 cases d <;> rfl
theorem add_at (k off j : Nat) : (⟨k, off, none⟩ : Addr).add j = ⟨k, off + j, none⟩ := by
 simp only [Addr.add]; split
 ·rename_i h; subst h; rfl
 ·rfl
theorem run_loadVar {te : TE} (h : TEok P T te) {k off : Nat} {cs : List Value} {v : Value} (hl : cs.length = te.size)
  (hc : ∀ j v, cs[j]? = some v → w.cell? ⟨k, off + j, none⟩ = some v) (hv : ofCells te.agg cs v) : (loadVar T ⟨k, off, none⟩).run P w = .ok v w := by
 obtain ⟨i, hi, hs⟩ := h.info
 obtain ⟨d, hd, ha, _⟩ := h.desc
 simp only [loadVar, Sem.run_bind, run_isa hd, Result.andThen_ok, ← ha]
 cases hag : te.agg with
 | true =>
  rw [hag] at hv
  simp only [ofCells, if_true] at hv
  subst hv
  simp only [if_true, Sem.run_bind, run_siz hi, Result.andThen_ok, hs, ← hl]
  rw [run_loadCells_list w ⟨k, off, none⟩ cs (fun j v hj => by rw [add_at]; exact hc j v hj)]
  rfl
 | false =>
  rw [hag] at hv
  simp only [ofCells] at hv
  simp only [Bool.false_eq_true, if_false, run_load]
  have := hc 0 v (by rw [show cs = [v] from by simpa using hv]; rfl)
  rw [show (⟨k, off, none⟩ : Addr) = ⟨k, off + 0, none⟩ from rfl, this]
end
def Does (P : Program) (o : Oper) (ρ : Operand → Value) (w : World) (F : Frame) (CS : List Frame) (v : Value) (w' : World) : Prop :=
 ((execOp ρ o).run P w = .ok (.value v) w') ∨ ((execOp ρ o).run P w = .ok .skip w' ∧ v = undef) ∨
 ∃ f args, (execOp ρ o).run P w = .ok (.enter f args) w ∧ ∃ fr, Steps P (lone (Frame.enter P f args .normal) (F :: CS) w) (lone fr (F :: CS) w') ∧ fr.leaving P w' (.returned v)
theorem WorldOK.refl {B : Base} {E : Env} (hs : StateOK B E) : WorldOK B E E.m.w E.m.M :=
 ⟨Nat.le_refl _, rfl, rfl, rfl, fun _ _ => .inl rfl, fun _ _ h => h, hs.late, hs.memo⟩
def FreeOK (B : Base) (E : Env) (o : Oper) (ρ : Operand → Value) (F : Frame) (CS : List Frame) (site : Nat) (a : AV) (new : New) : Prop :=
 (new = none ∧ ∃ v w' M', Does B.cx.P o ρ E.m.w F CS v w' ∧ WorldOK B E w' M' ∧ CV (E.world w' M') a v) ∨
 (∃ z, new = some (.box z false) ∧ a = .ptr site [] ∧ ∃ arr e, Does B.cx.P o ρ E.m.w F CS (.pointer (some ⟨E.m.w.heap.size, 0, none⟩)) { E.m.w with heap := E.m.w.heap.push (.cells arr e (0, 0)) } ∧ CC E z arr.toList)
theorem FreeOK.pure {B : Base} {E : Env} {o : Oper} {ρ : Operand → Value} {F : Frame} {CS : List Frame} {site : Nat} {a : AV} (hs : StateOK B E) {v : Value}
  (h : (execOp ρ o).run B.cx.P E.m.w = .ok (.value v) E.m.w) (hv : CV E a v) : FreeOK B E o ρ F CS site a none :=
 .inl ⟨rfl, v, E.m.w, E.m.M, .inl h, .refl hs, hv⟩
theorem constA_ok {E : Env} (v : Value) : CV E (constA v) v := by
 have scal : ∀ {t : Ty} {x : den t} {v : Value}, t.isAgg = false → Enc E.m t x [v] → CV E (.dat t x) v := fun ha he => CV.mk (a := .dat _ _) (cs := [_]) (by unfold CC; exact he) (by simp [AV.isAgg, ha, ofCells])
 unfold constA
 split
 ·exact scal rfl (by unfold Enc; rfl)
 ·exact scal rfl (by unfold Enc; rfl)
 ·exact scal rfl (by unfold Enc; rfl)
 ·exact CV.mk (a := .nilsl) (cs := [_]) (by unfold CC; exact ⟨none, rfl⟩) (by simp [AV.isAgg, ofCells])
 ·exact CV.mk (a := .nilp) (cs := [_]) (by unfold CC; rfl) (by simp [AV.isAgg, ofCells])
 ·exact CV.mk (a := .nilf) (cs := [_]) (by unfold CC; rfl) (by simp [AV.isAgg, ofCells])
 ·trivial
theorem CV.scal {E : Env} {t : Ty} {x : den t} {v : Value} (ha : t.isAgg = false) (he : Enc E.m t x [v]) : CV E (.dat t x) v :=
 CV.mk (a := .dat _ _) (cs := [_]) (by unfold CC; exact he) (by simp [AV.isAgg, ha, ofCells])
theorem CV.int {E : Env} (k : IntKind) (n : Int) : CV E (.dat (.int k) n) (.int k n) := CV.scal rfl (by unfold Enc; rfl)
theorem CV.bool {E : Env} (b : Bool) : CV E (.dat .bool b) (.bool b) := CV.scal rfl (by unfold Enc; rfl)
theorem CV.int_inv {E : Env} {k : IntKind} {n : Int} {v : Value} (h : CV E (.dat (.int k) n) v) : v = .int k n := by
 obtain ⟨cs, h1, h2⟩ := h
 unfold CC at h1
 unfold Enc at h1
 subst h1
 simpa [ofCells, AV.isAgg, Ty.isAgg] using h2.symm
theorem CV.bool_inv {E : Env} {b : Bool} {v : Value} (h : CV E (.dat .bool b) v) : v = .bool b := by
 obtain ⟨cs, h1, h2⟩ := h
 unfold CC at h1
 unfold Enc at h1
 subst h1
 simpa [ofCells, AV.isAgg, Ty.isAgg] using h2.symm
theorem opA_ok {B : Base} {E : Env} (hs : StateOK B E) {r : Regs} {n : Nat} {tmps : Array Value} (h : RegsOK E r n tmps) (x : Operand) :
  CV E (opA B.cx r x) (match x with | .tmp t => tmps.getD t undef | .const v => v | .global g => .pointer (some ⟨g, 0, none⟩) | .func f => .func (.func f) #[] #[]) := by
 cases x with
 | tmp t => exact h.2 t
 | const v => exact constA_ok v
 | global g => exact hs.glob g
 | func f =>
  refine CV.mk (a := .fn f [] []) (cs := [.func (.func f) #[] #[]]) ?_ (by simp [AV.isAgg, ofCells])
  unfold CC
  exact ⟨[], [], rfl, by unfold CVL; rfl, by unfold CVL; rfl⟩
end Go.Gh
/- The ghost machine: free operations do what the executor says. Conditions: as each lemma states. -/
namespace Go.Gh
section
variable {R : Type} {B : Base} {E : Env} {o : Oper} {av : Operand → AV} {ρ : Operand → Value} {F : Frame} {CS : List Frame} {site : Nat} {g : AV → New → Option R} {r : R}
abbrev FreeGoal (B : Base) (E : Env) (o : Oper) (ρ : Operand → Value) (F : Frame) (CS : List Frame) (site : Nat) (g : AV → New → Option R) (r : R) : Prop :=
 ∃ a new, g a new = some r ∧ FreeOK B E o ρ F CS site a new
theorem free_move {x : Operand} (hs : StateOK B E) (ho : o.op = .move x ∨ o.op = .assign x) (hav : CV E (av x) (ρ x)) (h : g (av x) none = some r) : FreeGoal B E o ρ F CS site g r :=
 ⟨_, _, h, .pure hs (v := ρ x) (by rcases ho with ho | ho <;> simp [execOp, ho]) hav⟩
theorem run_asBool (P : Program) (w : World) (b : Bool) : (asBool (.bool b)).run P w = .ok b w := rfl
theorem free_pick {c a b : Operand} (hs : StateOK B E) (ho : o.op = .pick c a b) (hc : CV E (av c) (ρ c)) (ha : CV E (av a) (ρ a)) (hb : CV E (av b) (ρ b))
  (h : opf B.cx E.H av site o.op g = some r) : FreeGoal B E o ρ F CS site g r := by
 rw [ho] at h
 simp only [opf] at h
 split at h
 ·rename_i cb hcb
  rw [hcb] at hc
  have hc := CV.bool_inv hc
  have hrun : (execOp ρ o).run B.cx.P E.m.w = .ok (.value (if cb = true then ρ a else ρ b)) E.m.w := by
   simp [execOp, ho, hc, run_asBool]
  split at h
  ·rename_i x y hx hy
   rw [hx] at ha; rw [hy] at hb
   have ha := CV.bool_inv ha
   have hb := CV.bool_inv hb
   refine ⟨_, _, h, .pure hs hrun ?_⟩
   rw [ha, hb]
   cases cb <;> exact CV.bool _
  ·cases cb with
   | true => exact ⟨_, _, h, .pure hs hrun ha⟩
   | false => exact ⟨_, _, h, .pure hs hrun hb⟩
 ·cases h
theorem run_newVar (P : Program) (w : World) (T : TypeId) (v : Value) : (newVar T v).run P w = .ok ⟨w.heap.size, 0, none⟩ { w with heap := w.heap.push (.cells v.cells T (0, 0)) } := by
 simp [newVar, newRow]
theorem ofCells_cells {a : AV} {E : Env} {cs : List Value} {v : Value} (hc : CC E a cs) (h : ofCells a.isAgg cs v) : v.cells.toList = cs := by
 unfold ofCells at h
 split at h
 ·subst h; simp [Value.cells]
 ·subst h
  have := CC.one a hc v (by simp)
  cases v <;> simp [Value.cells, one] at this ⊢
theorem free_alloc {T : TypeId} (_ : StateOK B E) (hte : ∀ T te, B.cx.te T = some te → TEok B.cx.P T te) (ho : o.op = .alloc T)
  (h : opf B.cx E.H av site o.op g = some r) : FreeGoal B E o ρ F CS site g r := by
 rw [ho] at h
 simp only [opf] at h
 split at h
 ·rename_i sz ag dd ty eqq z hT
  obtain ⟨h1, h2, i, zv, h3, h4, h5⟩ := (hte _ _ hT).zero z rfl
  obtain ⟨cs, h6, h7⟩ := h5 E
  refine ⟨_, _, h, .inr ⟨z, rfl, rfl, zv.cells, T, .inl ?_, ?_⟩⟩
  ·simp [execOp, ho, Instr.alloc, run_zer h3 h4, run_newVar]
  ·rw [ofCells_cells h6 h7]; exact h6
 ·cases h
theorem cells_pos_cc {E : Env} {a : AV} {v : Value} {n : Nat} (hn : 1 ≤ n) (hc : CV E a v) (h : cells a = n) : ∃ cs, CC E a cs ∧ ofCells a.isAgg cs v := by
 refine hc.cells (fun e => ?_)
 simp only [cells, e, sizeK] at h
 omega
theorem lastHm_spec : ∀ {as l : List AV} {i : Nat} {z : Sigma den}, lastHm as = some (l, i, z) → as = l ++ [.hm i z.1 z.2]
 | [], _, _, _, h => by simp [lastHm] at h
 | a :: r, l, i, z, h => by
  simp only [lastHm] at h
  split at h
  ·rename_i l' z' h'
   simp only [Option.some.injEq, Prod.mk.injEq] at h
   obtain ⟨rfl, h2⟩ := h
   obtain ⟨i', z''⟩ := z'
   cases h2
   rw [lastHm_spec h']
   rfl
  ·split at h
   ·simp only [Option.some.injEq, Prod.mk.injEq] at h
    obtain ⟨rfl, rfl, rfl⟩ := h
    rfl
   ·cases h
theorem CCL.split {E : Env} : ∀ {as bs : List AV} {cs : List Value}, CCL E (as ++ bs) cs → ∃ xs ys, cs = xs ++ ys ∧ CCL E as xs ∧ CCL E bs ys
 | [], bs, cs, h => ⟨[], cs, rfl, by unfold CCL; rfl, h⟩
 | a :: as, bs, cs, h => by
  rw [List.cons_append] at h
  unfold CCL at h
  obtain ⟨x, y, rfl, h1, h2⟩ := h
  obtain ⟨xs, ys, rfl, h3, h4⟩ := CCL.split h2
  exact ⟨x ++ xs, ys, by simp, by unfold CCL; exact ⟨x, xs, rfl, h1, h3⟩, h4⟩
theorem guardP_some {p : Prop} {a : Option R} {r : R} (h : guardP p a = some r) : p ∧ a = some r := by
 unfold guardP at h
 split at h
 ·rename_i hp; exact ⟨hp, h⟩
 ·cases h
theorem lent_of (hs : StateOK B E) : LentOK E := by
 intro id t xs hl
 have hb := hs.blk _ _ hl
 rcases hb with ⟨h1, h2⟩ | ⟨k, arr, e, es, h1, h2, h3, h4, h5⟩
 ·exact .inl h2
 ·right
  refine ⟨k, es, h1, h4, fun j v hj => ⟨?_, fun hm => ?_⟩⟩
  ·have hlt : j < es.length := (List.getElem?_eq_some_iff.1 hj).1
   simp only [Mem.cell, World.cell?, h3, Nat.zero_add]
   obtain ⟨tl, htl⟩ := h5
   have : arr[j]? = some v := by
    rw [← Array.getElem?_toList, ← htl, List.getElem?_append_left hlt]; exact hj
   simp [this]
  ·rcases (hs.wri k (0 + j)).1 hm with h6 | ⟨id', b', h6, h7, h8⟩
   ·exact hs.fo.2 _ _ _ _ hl h1 h6
   ·have := hs.inj _ _ _ _ _ h6 hl h7 h1
    subst this
    rw [hl] at h6
    cases h6
    have hlt : j < es.length := (List.getElem?_eq_some_iff.1 hj).1
    have hlen := h4.len (s := size t) (fun x cs p => Enc.len t p)
    have := h8 rfl
    omega
theorem free_box {T : TypeId} {x : Operand} (hs : StateOK B E) (hte : ∀ T te, B.cx.te T = some te → TEok B.cx.P T te) (ho : o.op = .box T x) (hx : CV E (av x) (ρ x))
  (h : opf B.cx E.H av site o.op g = some r) : FreeGoal B E o ρ F CS site g r := by
 rw [ho] at h
 simp only [opf] at h
 split at h
 ·-- an object of a handle
  rename_i l i z hm
  obtain ⟨hd, h⟩ := guardP_some h
  cases hav : av x with
  | agg as =>
   rw [hav] at hm hx
   simp only [hmOf] at hm
   have has := lastHm_spec hm
   obtain ⟨cs, hc, hv⟩ := hx
   unfold CC at hc
   rw [has] at hc
   obtain ⟨es, ys, rfl, h1, h2⟩ := hc.split
   unfold CCL at h2
   obtain ⟨y1, y2, rfl, h3, h4⟩ := h2
   unfold CCL at h4
   subst h4
   unfold CC at h3
   obtain ⟨km, rfl, hkm⟩ := h3
   have henc : Enc E.m z.1 z.2 es := toDat_spec (lent_of hs) z.1 (.agg l) (by unfold CC; exact h1) hd
   simp only [ofCells, AV.isAgg, if_true, List.append_nil] at hv
   let w' : World := { E.m.w with heap := E.m.w.heap.push (.cells (es ++ [Value.map (some km)]).toArray T (0, 0)) }
   have hsame : ∀ k, k < E.m.w.heap.size → w'.heap[k]? = E.m.w.heap[k]? := fun k hk => by
    show (E.m.w.heap.push _)[k]? = _
    rw [Array.getElem?_push, if_neg (by omega)]
   have hle : E.m.le (E.world w' E.m.M).m := by
    refine ⟨fun k j v hc hm => ⟨?_, hm⟩, fun _ _ h => h, fun k x hk => ?_⟩
    ·have := cell_lt hc
     rw [← hc]; exact cell_block (hsame k this) j
    ·have := shape_lt hk
     rw [← hk]; exact shape_block (hsame k this)
   have hW : WorldOK B E w' E.m.M := by
    refine ⟨by show _ ≤ (E.m.w.heap.push _).size; simp, rfl, rfl, rfl, fun k hk => .inl (hsame k hk), fun _ _ h => h, hs.late, ?_⟩
    intro km i t y hk
    obtain ⟨en, clock, mm, x, p1, p2, p3, p4⟩ := hs.memo km i t y hk
    exact ⟨en, clock, mm, x, by rw [show (E.world w' E.m.M).m.w.heap[km]? = E.m.w.heap[km]? from hsame km (lt_of_some p1)]; exact p1, p2, p3, fun e he => let ⟨kx, vx, a, b, c⟩ := p4 e he; ⟨kx, vx, let ⟨cs, q1, q2⟩ := a; ⟨cs, Enc.mono hle _ q1, q2⟩, let ⟨cs, q1, q2⟩ := b; ⟨cs, Enc.mono hle _ q1, q2⟩, c⟩⟩
   refine ⟨_, _, h, .inl ⟨rfl, .pointer (some ⟨E.m.w.heap.size, 0, none⟩), w', E.m.M, .inl ?_, hW, ?_⟩⟩
   ·have hc : (ρ x).cells = (es ++ [Value.map (some km)]).toArray := by rw [hv]; rfl
    simp [execOp, ho, Instr.box, run_newVar, hc, w']
   ·refine CV.mk (cs := [.pointer (some ⟨E.m.w.heap.size, 0, none⟩)]) ?_ (by simp [ofCells, AV.isAgg])
    unfold CC Enc
    refine ⟨E.m.w.heap.size, es, km, rfl, Enc.mono hle _ henc, fun j v hj => ⟨?_, fun hm => ?_⟩, hkm⟩
    ·have : (E.world w' E.m.M).m.w.heap[E.m.w.heap.size]? = some (.cells (es ++ [Value.map (some km)]).toArray T (0, 0)) := by
      show (E.m.w.heap.push _)[_]? = _
      simp
     simp only [Mem.cell, World.cell?, this, Nat.zero_add]
     simp [hj]
    ·rcases (hs.wri _ _).1 hm with h6 | ⟨id', b', h6, h7, h8⟩
     ·have h9 := hs.fo.1 _ _ h6
      have := hs.since.grow
      omega
     ·have := (hs.blk _ _ h6).lt h7
      omega
  | _ => rw [hav] at hm; simp [hmOf] at hm
 ·split at h
  ·rename_i te hT
   split at h
   ·rename_i hsz
    obtain ⟨cs, h1, h2⟩ := cells_pos_cc (hte _ _ hT).pos hx hsz
    refine ⟨_, _, h, .inr ⟨_, rfl, rfl, (ρ x).cells, T, .inl ?_, ?_⟩⟩
    ·simp [execOp, ho, Instr.box, run_newVar]
    ·rw [ofCells_cells h1 h2]; exact h1
   ·cases h
  ·cases h
theorem cells_one {E : Env} {b : AV} {cs : List Value} (hc : CC E b cs) (hb : b.isAgg = false) : cs.length = 1 := by
 rw [CC.len b hc]
 cases b with
 | dat t y => cases t <;> first | rfl | cases hb
 | agg fs => cases hb
 | arrL fs => cases hb
 | tup fs => unfold CC at hc; exact hc.elim
 | top => unfold CC at hc; exact hc.elim
 | _ => rfl
theorem ofCells_some {E : Env} {b : AV} {cs : List Value} (hc : CC E b cs) : ∃ v, ofCells b.isAgg cs v := by
 cases hb : b.isAgg with
 | true => exact ⟨_, rfl⟩
 | false =>
  match cs, cells_one hc hb with
  | [v], _ => exact ⟨v, by simp [ofCells]⟩
theorem free_load {T : TypeId} {x : Operand} (hs : StateOK B E) (hte : ∀ T te, B.cx.te T = some te → TEok B.cx.P T te) (ho : o.op = .load T x) (hx : CV E (av x) (ρ x))
  (h : opf B.cx E.H av site o.op g = some r) : FreeGoal B E o ρ F CS site g r := by
 rw [ho] at h
 simp only [opf] at h
 split at h
 ·rename_i te hT
  have hT := hte _ _ hT
  have fin : ∀ (b : AV) (k off : Nat) (cs : List Value), ρ x = .pointer (some ⟨k, off, none⟩) → CC E b cs → (∀ j v, cs[j]? = some v → E.m.w.cell? ⟨k, off + j, none⟩ = some v) →
    cells b = te.size → b.isAgg = te.agg → g b none = some r → FreeGoal B E o ρ F CS site g r := by
   intro b k off cs hp hcc hcell hsz hag hg
   have hl := CC.len b hcc
   have hv := ofCells_some hcc
   obtain ⟨v, hv⟩ := hv
   refine ⟨b, none, hg, .pure hs (v := v) ?_ (CV.mk hcc hv)⟩
   simp only [execOp, ho, Instr.loadAt, hp, Instr.sureAddr]
   rw [hag] at hv
   simp [run_loadVar (w := E.m.w) hT (by rw [hl, hsz]) hcell hv]
  split at h
  ·rename_i id p hav
   rw [hav] at hx
   obtain ⟨cs, h1, h2⟩ := hx
   unfold CC at h1
   obtain ⟨v, rfl, _, h4⟩ := h1
   have hpv : ρ x = v := by simpa [ofCells, AV.isAgg] using h2.symm
   split at h
   ·rename_i a f hl
    obtain ⟨k, hk, hv⟩ := h4 _ hl
    obtain ⟨k', arr, e, p1, p2, p3, p4⟩ := hs.blk _ _ hl
    rw [hk] at p1; cases p1
    obtain ⟨b, q1, q2, q3⟩ := getA_spec p p4 h
    split at q1
    ·rename_i hc
     simp only [Bool.and_eq_true, decide_eq_true_eq, beq_iff_eq] at hc
     obtain ⟨c1, c2⟩ := hc
     refine fin b k _ _ (by rw [hpv, hv]) q2 (fun j u hj => ?_) c1 c2 q1
     simp only [cut, List.getElem?_take, List.getElem?_drop] at hj
     split at hj
     ·simp only [World.cell?, p3, skB]
      simpa using hj
     ·cases hj
    ·cases q1
   ·rename_i t xs l hl
    obtain ⟨k, hk, hv⟩ := h4 _ hl
    split at h
    ·rename_i i p
     by_cases hi : i < xs.length
     ·rw [decide_eq_true hi, cond_true] at h
      rcases hs.blk _ _ hl with ⟨p1, _⟩ | ⟨k', arr, e, es, p1, p2, p3, p4, p5⟩
      ·rw [hk] at p1; cases p1
      rw [hk] at p1; cases p1
      have hL : ∀ (x : den t) cs, Enc E.m t x cs → cs.length = size t := fun x cs p => Enc.len t p
      have hel := p4.get hL hi (dflt t)
      obtain ⟨u, y, q1, q2, q3⟩ := getT_spec p hel h
      split at q1
      ·rename_i hc
       simp only [Bool.and_eq_true, decide_eq_true_eq, beq_iff_eq] at hc
       obtain ⟨c1, c2⟩ := hc
       have hlen := Rows.len hL p4
       have hm : (i + 1) * size t ≤ xs.length * size t := Nat.mul_le_mul_right _ hi
       rw [Nat.add_mul, Nat.one_mul] at hm
       rw [List.length_take, List.length_drop] at q3
       refine fin _ k _ _ (by rw [hpv, hv]) (by unfold CC; exact q2) (fun j z hj => ?_) c1 c2 q1
       simp only [cut, List.getElem?_take, List.getElem?_drop] at hj
       split at hj
       ·split at hj
        ·obtain ⟨tl, htl⟩ := p5
         have e1 : offK (skB (.row t xs l)) (i :: p) = i * size t + offK (skT t) p := by simp only [skB, offK, size_sk]
         have e2 : arr.toList[i * size t + offK (skT t) p + j]? = some z := by
          rw [← htl, List.getElem?_append_left]
          ·rw [Nat.add_assoc]; exact hj
          ·exact (List.getElem?_eq_some_iff.1 (by rw [Nat.add_assoc]; exact hj)).1
         simp only [World.cell?, p3, e1]
         simpa using e2
        ·cases hj
       ·cases hj
      ·cases q1
     ·rw [decide_eq_false hi] at h; cases h
    ·cases h
   ·cases h
  ·rename_i t y hav
   rw [hav] at hx
   obtain ⟨cs, h1, h2⟩ := hx
   unfold CC at h1
   obtain ⟨k, off, es, rfl, h3, h4⟩ := h1
   have h2 : ρ x = .pointer (some ⟨k, off, none⟩) := by simpa [ofCells, AV.isAgg] using h2.symm
   split at h
   ·rename_i hc
    simp only [Bool.and_eq_true, decide_eq_true_eq, beq_iff_eq] at hc
    obtain ⟨c1, c2⟩ := hc
    exact fin (.dat t y) k off es h2 (by unfold CC; exact h3) (fun j v hj => (h4 j v hj).1) (by simp only [cells, skA, ← size_sk]; exact c1) c2 h
   ·cases h
  ·rename_i i t y hav
   rw [hav] at hx
   obtain ⟨cs, h1, h2⟩ := hx
   unfold CC at h1
   obtain ⟨k, off, km, rfl, h3, h4⟩ := h1
   have h2 : ρ x = .pointer (some ⟨k, off, none⟩) := by simpa [ofCells, AV.isAgg] using h2.symm
   split at h
   ·rename_i hc
    simp only [Bool.and_eq_true, decide_eq_true_eq, beq_iff_eq] at hc
    obtain ⟨c1, c2⟩ := hc
    exact fin (.hm i t y) k off [.map (some km)] h2 (by unfold CC; exact ⟨km, rfl, h4⟩) (fun j v hj => (h3 j v hj).1) (by simp only [cells, skA, sizeK]; exact c1.symm) c2.symm h
   ·cases h
  ·cases h
 ·cases h
theorem CV.one {E : Env} {a : AV} {v : Value} (h : CV E a v) (ha : a.isAgg = false) (hb : skA a ≠ .bad) : CC E a [v] := by
 obtain ⟨cs, h1, h2⟩ := h.cells hb
 unfold ofCells at h2
 rw [ha] at h2
 simp only [Bool.false_eq_true, if_false] at h2
 rw [h2] at h1
 exact h1
theorem CV.of1 {E : Env} {a : AV} {v : Value} (h : CC E a [v]) (ha : a.isAgg = false) : CV E a v := CV.mk h (by simp [ofCells, ha])
theorem free_nilCheck {x : Operand} (hs : StateOK B E) (ho : o.op = .nilCheck x) (hx : CV E (av x) (ρ x))
  (h : opf B.cx E.H av site o.op g = some r) : FreeGoal B E o ρ F CS site g r := by
 rw [ho] at h
 simp only [opf] at h
 have hptr : ∀ p, ρ x = .pointer (some p) → (execOp ρ o).run B.cx.P E.m.w = .ok (.value (ρ x)) E.m.w := by
  intro p hp
  simp [execOp, ho, hp]
 split at h
 ·rename_i id p hav
  rw [hav] at hx
  split at h
  ·rename_i hl
   obtain ⟨b, hl⟩ := Option.isSome_iff_exists.1 hl
   have h1 := hx.one rfl (by simp [skA])
   unfold CC at h1
   obtain ⟨v, e, h3, h4⟩ := h1
   cases e
   obtain ⟨k, _, hv⟩ := h4 b hl
   exact ⟨_, _, h, .pure hs (hptr _ hv) hx⟩
  ·cases h
 ·rename_i t y hav
  rw [hav] at hx
  have h1 := hx.one rfl (by simp [skA])
  unfold CC at h1
  obtain ⟨k, off, es, e, _⟩ := h1
  have hv := (List.cons.inj e).1
  exact ⟨_, _, h, .pure hs (hptr _ hv) hx⟩
 ·rename_i i t y hav
  rw [hav] at hx
  have h1 := hx.one rfl (by simp [skA])
  unfold CC at h1
  unfold Enc at h1
  obtain ⟨k, es, km, e, _⟩ := h1
  have hv := (List.cons.inj e).1
  exact ⟨_, _, h, .pure hs (hptr _ hv) hx⟩
 ·rename_i i t oo hav
  rw [hav] at hx
  have h1 := hx.one rfl (by simp [skA, skT])
  unfold CC at h1
  cases oo with
  | none => cases h
  | some y =>
   have h2 := h1
   unfold Enc at h1
   obtain ⟨k, es, km, e, _⟩ := h1
   have hv := (List.cons.inj e).1
   exact ⟨_, _, h, .pure hs (hptr _ hv) (CV.of1 (by unfold CC; exact h2) rfl)⟩
 ·rename_i f a b hav
  rw [hav] at hx
  have h1 := hx.one rfl (by simp [skA])
  unfold CC at h1
  obtain ⟨vs, ws, e, _⟩ := h1
  have hv := (List.cons.inj e).1
  exact ⟨_, _, h, .pure hs (v := ρ x) (by simp [execOp, ho, hv]) hx⟩
 ·cases h
theorem CVL.elem {E : Env} {a : AV} {v : Value} (h : CV E a v) : (∃ cs, CC E (argA a) cs ∧ ofCells (argA a).isAgg cs v) ∨ (argA a).isTop = true := by
 cases a <;> first | exact .inl h | exact .inr rfl
theorem CVL.map {E : Env} {av : Operand → AV} {ρ : Operand → Value} : ∀ (l : List Operand), (∀ x ∈ l, CV E (av x) (ρ x)) → CVL E (l.map fun x => argA (av x)) (l.map ρ)
 | [], _ => by unfold CVL; rfl
 | x :: l, h => by
  simp only [List.map_cons]
  unfold CVL
  exact ⟨_, _, rfl, CVL.elem (h x (by simp)), CVL.map l (fun y hy => h y (by simp [hy]))⟩
theorem free_makeFunc {f : FuncId} {fs cs : Array Operand} (hs : StateOK B E) (ho : o.op = .makeFunc (.func f) fs cs) (hx : ∀ x ∈ fs.toList, CV E (av x) (ρ x)) (hy : ∀ x ∈ cs.toList, CV E (av x) (ρ x))
  (h : opf B.cx E.H av site o.op g = some r) : FreeGoal B E o ρ F CS site g r := by
 rw [ho] at h
 simp only [opf] at h
 refine ⟨_, _, h, .pure hs (v := .func (.func f) (fs.map ρ) (cs.map ρ)) (by simp [execOp, ho, Instr.makeFunc]) (CV.of1 ?_ rfl)⟩
 unfold CC
 exact ⟨(fs.map ρ).toList, (cs.map ρ).toList, by simp only [Array.toArray_toList], by rw [Array.toList_map]; exact CVL.map _ hx, by rw [Array.toList_map]; exact CVL.map _ hy⟩
theorem CVL.get {E : Env} : ∀ {as : List AV} {vs : List Value} {k : Nat} {a : AV}, CVL E as vs → as[k]? = some a → ∃ v, vs[k]? = some v ∧ CV E a v
 | [], _, _, _, _, h => by simp at h
 | b :: as, vs, k, a, hc, h => by
  unfold CVL at hc
  obtain ⟨v, us, rfl, h1, h2⟩ := hc
  cases k with
  | zero =>
   simp at h; subst h
   refine ⟨v, rfl, ?_⟩
   rcases h1 with ⟨cs, p, q⟩ | h1
   ·exact CV.mk p q
   ·cases b <;> first | trivial | cases h1
  | succ k => simp at h ⊢; exact CVL.get h2 h
theorem free_extract {x : Operand} {k : Nat} (hs : StateOK B E) (ho : o.op = .extract x k) (hx : CV E (av x) (ρ x))
  (h : opf B.cx E.H av site o.op g = some r) : FreeGoal B E o ρ F CS site g r := by
 rw [ho] at h
 simp only [opf] at h
 split at h
 ·rename_i as hav
  rw [hav] at hx
  obtain ⟨vs, hv, h1⟩ := hx
  split at h
  ·rename_i a ha
   obtain ⟨v, h2, h3⟩ := CVL.get h1 ha
   refine ⟨_, _, h, .pure hs (v := v) ?_ h3⟩
   simp [execOp, ho, hv, Instr.extract, h2]
  ·cases h
 ·cases h
theorem run_part {P : Program} {T : TypeId} {te : TE} (h : TEok P T te) {cs : Array Value} {off : Nat} {bs : List Value} {v : Value} {w : World} (hb : bs = cut cs.toList off te.size) (hl : off + te.size ≤ cs.toList.length) (hv : ofCells te.agg bs v) : (part T cs off).run P w = .ok v w := by
 obtain ⟨i, hi, hs⟩ := h.info
 obtain ⟨d, hd, ha, _⟩ := h.desc
 unfold part
 simp only [Sem.run_bind, run_isa hd, Result.andThen_ok, ← ha]
 have hlen : bs.length = te.size := by rw [hb, cut, List.length_take, List.length_drop]; omega
 cases hag : te.agg with
 | true =>
  rw [hag] at hv
  simp only [ofCells, if_true] at hv
  subst hv
  simp only [if_true, Sem.run_bind, run_siz hi, Result.andThen_ok, Sem.run_pure, hs]
  congr 2
  rw [hb]
  apply Array.ext'
  simp [cut]
 | false =>
  rw [hag] at hv
  simp only [ofCells, Bool.false_eq_true, if_false] at hv
  have h1 : te.size = 1 := by rw [← hlen, hv]; rfl
  have hpos := h.pos
  have : cs[off]? = some v := by
   have h2 : bs[0]? = some v := by rw [hv]; rfl
   rw [hb, cut, List.getElem?_take, if_pos (by omega), List.getElem?_drop] at h2
   rw [← Array.getElem?_toList]
   simpa using h2
  simp only [Bool.false_eq_true, if_false, this, Sem.run_pure]
theorem part_of {E : Env} {a : AV} {v : Value} {p : Nat} {P : Program} {T : TypeId} {te : TE} (hT : TEok P T te) (hc : CV E a v) (hag : a.isAgg = true) {k : AV → Option R} (h : getA [p] a (fun b => if cells b = te.size && b.isAgg == te.agg then k b else none) = some r) :
  ∃ cs : Array Value, v = .agg cs ∧ ∃ b u, k b = some r ∧ CV E b u ∧ ∀ w, (part T cs (offK (skA a) [p])).run P w = .ok u w := by
 have hsk : skA a ≠ .bad := by
  cases a with
  | dat t x => cases t <;> simp [skA, skT]
  | agg _ => simp [skA]
  | arrL _ => simp [skA]
  | _ => cases hag
 obtain ⟨cs, h1, h2⟩ := hc.cells hsk
 rw [hag] at h2
 simp only [ofCells, if_true] at h2
 obtain ⟨b, q1, q2, q3⟩ := getA_spec [p] h1 h
 split at q1
 ·rename_i hcond
  simp only [Bool.and_eq_true, decide_eq_true_eq, beq_iff_eq] at hcond
  obtain ⟨u, hu⟩ := ofCells_some q2
  refine ⟨_, h2, b, u, q1, CV.mk q2 hu, fun w => ?_⟩
  rw [hcond.2] at hu
  rw [hcond.1] at q2 q3 hu
  exact run_part hT rfl q3 hu
 ·cases q1
theorem free_field {T : TypeId} {x : Operand} {k : Nat} (hs : StateOK B E) (hte : ∀ T te, B.cx.te T = some te → TEok B.cx.P T te) (ho : o.op = .field T x k) (hx : CV E (av x) (ρ x))
  (h : opf B.cx E.H av site o.op g = some r) : FreeGoal B E o ρ F CS site g r := by
 rw [ho] at h
 simp only [opf] at h
 split at h
 ·rename_i fs hu
  split at h
  ·rename_i f hf
   split at h
   ·rename_i te hT
    split at h
    ·rename_i hc
     obtain ⟨cs, hv, b, u, h1, h2, h3⟩ := part_of (hte _ _ hT) hx hc.1 h
     refine ⟨b, none, h1, .pure hs (v := u) ?_ h2⟩
     simp only [execOp, ho, Instr.field, Sem.run_bind, run_und hu, Result.andThen_ok, hf, hv, asAgg, Sem.run_pure, ← hc.2, h3]
    ·cases h
   ·cases h
  ·cases h
 ·cases h
theorem take_even {n : Nat} : ∀ {l : List Sk} {i : Nat}, (l.all fun s => sizeK s == n) = true → i ≤ l.length → sizeKL (l.take i) = i * n
 | _, 0, _, _ => by simp [sizeKL]
 | [], i + 1, _, h => by simp at h
 | s :: l, i + 1, h, hi => by
  rw [List.all_cons, Bool.and_eq_true, beq_iff_eq] at h
  rw [List.take_succ_cons, sizeKL, h.1, take_even h.2 (by simpa using hi), Nat.succ_mul]
  omega
theorem free_index {T : TypeId} {x ix : Operand} (hs : StateOK B E) (hte : ∀ T te, B.cx.te T = some te → TEok B.cx.P T te) (ho : o.op = .index T x ix) (hx : CV E (av x) (ρ x)) (hix : CV E (av ix) (ρ ix))
  (h : opf B.cx E.H av site o.op g = some r) : FreeGoal B E o ρ F CS site g r := by
 rw [ho] at h
 simp only [opf] at h
 split at h
 ·rename_i sz ag n el esz ty eqq zz k i hT hai
  rw [hai] at hix
  have hi := hix.int_inv
  obtain ⟨d, h1, _, h2⟩ := (hte _ _ hT).desc
  simp only [DOK] at h2
  obtain ⟨rfl, ei, h3, h4⟩ := h2
  split at h
  ·rename_i te hTe
   split at h
   ·rename_i hc
    obtain ⟨c1, c2, c3⟩ := hc
    have hb : 0 ≤ i ∧ i < (n : Int) ∧ getA [i.toNat] (av x) (fun b => if cells b = te.size && b.isAgg == te.agg then g b none else none) = some r := by
     by_cases h0 : 0 ≤ i
     ·by_cases h5 : i < (n : Int)
      ·simp [h0, h5] at h; exact ⟨h0, h5, by simpa using h⟩
      ·simp [h5] at h
     ·simp [h0] at h
    obtain ⟨h0, h5, h⟩ := hb
    have hoff : offK (skA (av x)) [i.toNat] = i.toNat * esz := by
     cases hax : av x with
     | dat t y =>
      rw [hax] at c3 h
      cases t with
      | arr m t => simp only [skA, skT, evenK, beq_iff_eq] at c3; simp only [skA, skT, offK, c3, Nat.add_zero]
      | struct fs =>
       simp only [skA, skT, evenK] at c3
       simp only [getA, getT] at h
       split at h
       ·rename_i t' y' hf
        have hlt : i.toNat < (skTL fs).length := by
         have : ∀ (fs : List Ty) (x : denL fs) (k : Nat) (z : Sigma den), fieldT fs x k = some z → k < (skTL fs).length := by
          intro fs
          induction fs with
          | nil => intro x k z hz; simp [fieldT] at hz
          | cons t ts ih =>
           intro x k z hz
           cases k with
           | zero => simp [skTL]
           | succ k => simp only [fieldT] at hz; simp only [skTL, List.length_cons]; have := ih _ _ _ hz; omega
         exact this _ _ _ _ hf
        simp only [skA, skT, offK]
        rw [take_even c3 (by omega)]
        simp
       ·cases h
      | _ => simp [skA, skT, evenK] at c3
     | agg fs =>
      rw [hax] at c3 h
      simp only [skA, evenK] at c3
      simp only [getA] at h
      split at h
      ·rename_i a ha
       have hl : (skAL fs).length = fs.length := by
        have : ∀ fs : List AV, (skAL fs).length = fs.length := fun fs => by induction fs with | nil => rfl | cons a l ih => simp [skAL, ih]
        exact this fs
       have := (List.getElem?_eq_some_iff.1 ha).1
       simp only [skA, offK]
       rw [take_even c3 (by omega)]
       simp
      ·cases h
     | arrL fs =>
      rw [hax] at c3 h
      simp only [skA, evenK] at c3
      simp only [getA] at h
      obtain ⟨_, hlt, _⟩ := splitN_spec h
      have hl : (skAL fs).length = fs.length := by
       have : ∀ fs : List AV, (skAL fs).length = fs.length := fun fs => by induction fs with | nil => rfl | cons a l ih => simp [skAL, ih]
       exact this fs
      simp only [skA, offK]
      rw [take_even c3 (by omega)]
      simp
     | _ => rw [hax] at c1; cases c1
    obtain ⟨cs, hv, b, u, q1, q2, q3⟩ := part_of (hte _ _ hTe) hx c1 h
    rw [hoff] at q3
    refine ⟨b, none, q1, .pure hs (v := u) ?_ q2⟩
    simp only [execOp, ho, Instr.index, hi, hv, asIntOf, Sem.run_bind, Sem.run_pure, Result.andThen_ok, run_und h1, if_pos (show 0 ≤ i ∧ i < (n : Int) from ⟨h0, h5⟩), run_siz h3, h4, q3]
   ·cases h
  ·cases h
 ·cases h
theorem free_unOp {op : UnOp} {T : TypeId} {x : Operand} (hs : StateOK B E) (ho : o.op = .unOp op T x) (hx : CV E (av x) (ρ x))
  (h : opf B.cx E.H av site o.op g = some r) : FreeGoal B E o ρ F CS site g r := by
 rw [ho] at h
 simp only [opf] at h
 split at h
 ·rename_i b hav
  rw [hav] at hx
  exact ⟨_, _, h, .pure hs (v := .bool (!b)) (by simp [execOp, ho, hx.bool_inv, Op.unary]) (CV.bool _)⟩
 ·rename_i k n hav
  rw [hav] at hx
  exact ⟨_, _, h, .pure hs (v := .int k (k.wrap (0 - n))) (by simp [execOp, ho, hx.int_inv, Op.unary, Op.intArith]) (CV.int _ _)⟩
 ·cases h
theorem free_convert {S T : TypeId} {x : Operand} (hs : StateOK B E) (hte : ∀ T te, B.cx.te T = some te → TEok B.cx.P T te) (ho : o.op = .convert S T x) (hx : CV E (av x) (ρ x))
  (h : opf B.cx E.H av site o.op g = some r) : FreeGoal B E o ρ F CS site g r := by
 rw [ho] at h
 simp only [opf] at h
 split at h
 ·rename_i teS sz ag k ty eqq z k' n hSe hT hav
  rw [hav] at hx
  obtain ⟨d, h1, _, h2⟩ := (hte _ _ hT).desc
  obtain ⟨ds, hS, _⟩ := (hte _ _ hSe).desc
  simp only [DOK] at h2
  subst h2
  refine ⟨_, _, h, .pure hs (v := .int k (k.wrap n)) ?_ (CV.int _ _)⟩
  simp only [execOp, ho, hx.int_inv, convert, Sem.run_bind, run_und hS, run_und h1, Result.andThen_ok, Conv.intToInt, Sem.run_pure]
 ·cases h
theorem intOp_ok {op : BinOp} {k : IntKind} {x y : Int} {g : AV → Option R} {r : R} {T : TypeId} {P : Program} {w : World} (hop : op ≠ .shl ∧ op ≠ .shr) (h : intOp op k x y g = some r) :
  ∃ a v, g a = some r ∧ (binOp op T (.int k x) (.int k y)).run P w = .ok v w ∧ ∀ E, CV E a v := by
 cases op <;> simp only [intOp] at h <;> first | exact absurd rfl hop.1 | exact absurd rfl hop.2 | cases h | skip
 case add => exact ⟨_, .int k (k.wrap (x + y)), h, by simp [binOp, Op.intArith], fun E => CV.int _ _⟩
 case sub => exact ⟨_, .int k (k.wrap (x - y)), h, by simp [binOp, Op.intArith], fun E => CV.int _ _⟩
 case mul => exact ⟨_, .int k (k.wrap (x * y)), h, by simp [binOp, Op.intArith], fun E => CV.int _ _⟩
 case quo =>
  by_cases hy : y = 0
  ·rw [decide_eq_true hy] at h; cases h
  ·rw [decide_eq_false hy] at h
   exact ⟨_, .int k (k.wrap (x.tdiv y)), h, by simp [binOp, Op.intDiv, hy], fun E => CV.int _ _⟩
 case rem =>
  by_cases hy : y = 0
  ·rw [decide_eq_true hy] at h; cases h
  ·rw [decide_eq_false hy] at h
   exact ⟨_, .int k (x.tmod y), h, by simp [binOp, Op.intDiv, hy], fun E => CV.int _ _⟩
 case and => exact ⟨_, .int k (bitF .and k x y), h, by simp [binOp, Op.intBits, bitF], fun E => CV.int _ _⟩
 case or => exact ⟨_, .int k (bitF .or k x y), h, by simp [binOp, Op.intBits, bitF], fun E => CV.int _ _⟩
 case xor => exact ⟨_, .int k (bitF .xor k x y), h, by simp [binOp, Op.intBits, bitF], fun E => CV.int _ _⟩
 case andNot => exact ⟨_, .int k (bitF .andNot k x y), h, by simp [binOp, Op.intBits, bitF], fun E => CV.int _ _⟩
 case eql => exact ⟨_, .bool (x == y), h, by simp [binOp, Op.intCmp], fun E => CV.bool _⟩
 case neq => exact ⟨_, .bool (x != y), h, by simp [binOp, Op.intCmp], fun E => CV.bool _⟩
 case lss => exact ⟨_, .bool (decide (x < y)), h, by simp [binOp, Op.intCmp], fun E => CV.bool _⟩
 case leq => exact ⟨_, .bool (decide (x ≤ y)), h, by simp [binOp, Op.intCmp], fun E => CV.bool _⟩
 case gtr => exact ⟨_, .bool (decide (x > y)), h, by simp [binOp, Op.intCmp], fun E => CV.bool _⟩
 case geq => exact ⟨_, .bool (decide (x ≥ y)), h, by simp [binOp, Op.intCmp], fun E => CV.bool _⟩
theorem toDat_isAgg {H : Heap} : ∀ {t : Ty} {a : AV} {x : den t}, toDat H t a = some x → t.isAgg = a.isAgg ∧ skA a ≠ .bad := by
 intro t a x h
 cases a with
 | dat u y =>
  simp only [toDat] at h
  obtain ⟨rfl, _⟩ := castT_spec h
  exact ⟨rfl, by cases u <;> simp [skA, skT]⟩
 | agg fs => cases t <;> first | exact ⟨rfl, by simp [skA]⟩ | (simp [toDat] at h)
 | arrL fs => cases t <;> first | exact ⟨rfl, by simp [skA]⟩ | (simp [toDat] at h)
 | nilsl => cases t <;> first | exact ⟨rfl, by simp [skA]⟩ | (simp [toDat] at h)
 | nilp => cases t <;> first | exact ⟨rfl, by simp [skA]⟩ | (simp [toDat] at h)
 | hp i u y => cases t <;> first | exact ⟨rfl, by simp [skA]⟩ | (simp [toDat] at h)
 | row i => cases t <;> first | exact ⟨rfl, by simp [skA]⟩ | (simp [toDat] at h)
 | sub i l n => cases t <;> first | exact ⟨rfl, by simp [skA]⟩ | (simp [toDat] at h)
 | _ => cases t <;> simp [toDat] at h
theorem toDat_EV {E : Env} (hl : LentOK E) {t : Ty} {a : AV} {x : den t} {v : Value} (hc : CV E a v) (h : toDat E.H t a = some x) : EV E.m t x v := by
 obtain ⟨h1, h2⟩ := toDat_isAgg h
 obtain ⟨cs, h3, h4⟩ := hc.cells h2
 exact ⟨cs, toDat_spec hl t a h3 h, by rw [h1]; exact h4⟩
theorem StateOK.lent {B : Base} {E : Env} (hs : StateOK B E) : LentOK E := by
 intro id t xs hl
 rcases hs.blk _ _ hl with ⟨_, h⟩ | ⟨k, arr, e, es, h1, h2, h3, h4, h5⟩
 ·exact .inl h
 ·refine .inr ⟨k, es, h1, h4, fun j v hj => ⟨?_, fun hm => ?_⟩⟩
  ·simp only [Mem.cell, World.cell?, h3, Nat.zero_add]
   obtain ⟨tl, htl⟩ := h5
   have : arr.toList[j]? = some v := by rw [← htl, List.getElem?_append_left (List.getElem?_eq_some_iff.1 hj).1]; exact hj
   simpa using this
  ·rw [Nat.zero_add] at hm
   rcases (hs.wri k j).1 hm with hf | ⟨i, b, h6, h7, h8⟩
   ·exact hs.fo.2 _ _ _ _ hl h1 hf
   ·have := hs.inj _ _ _ _ _ hl h6 h1 h7
    subst this
    rw [hl] at h6; cases h6
    have h9 := h8 rfl
    have hlen := Rows.len (s := size t) (fun x cs p => Enc.len t p) h4
    have := (List.getElem?_eq_some_iff.1 hj).1
    omega
theorem eqGuard_ok {P : Program} {T : TypeId} {t : Ty} {op : BinOp} {x y : Operand} {u v : Value} {w : World} {m : Mem} {a b : den t} (h : EqTy P T t) (hu : EV m t a u) (hv : EV m t b v) (hh : ∀ i s, t ≠ .hnd i s) :
  (eqGuard op T x y u v).run P w = .ok () w := by
 have hcase : t.isAgg = true ∨ ((∀ cs, u ≠ .agg cs) ∧ u ≠ .nilIface) := by
  obtain ⟨cs, h1, h2⟩ := hu
  cases t with
  | int k => unfold Enc at h1; subst h1; right; simp [ofCells, Ty.isAgg] at h2; subst h2; simp
  | bool => unfold Enc at h1; subst h1; right; simp [ofCells, Ty.isAgg] at h2; subst h2; simp
  | str => unfold Enc at h1; subst h1; right; simp [ofCells, Ty.isAgg] at h2; subst h2; simp
  | slice s => unfold Enc at h1; obtain ⟨p, cap, rfl, _⟩ := h1; right; simp [ofCells, Ty.isAgg] at h2; subst h2; simp
  | struct fs => left; rfl
  | arr n s => left; rfl
  | hnd i s => exact absurd rfl (hh i s)
 rcases hcase with hc | ⟨h1, h2⟩
 ·obtain ⟨cs, _, hu⟩ := hu
  obtain ⟨ds, _, hv⟩ := hv
  rw [hc] at hu hv
  simp only [ofCells, if_true] at hu hv
  subst hu hv
  cases op <;> simp [eqGuard, h.guard hc]
 ·cases op <;> cases u <;> simp_all [eqGuard]
theorem binOp_equal {P : Program} {T : TypeId} {t : Ty} {op : BinOp} {u v : Value} {w : World} {m : Mem} {a b : den t} (hu : EV m t a u) (hv : EV m t b v) (he : op = .eql ∨ op = .neq) (heq : (Op.equal T u v).run P w = .ok (eqD t a b) w)
  (hh : ∀ i s, t ≠ .hnd i s) (hsl : ∀ s, t ≠ .slice s) :
  (binOp op T u v).run P w = .ok (.bool (if op = .eql then eqD t a b else !(eqD t a b))) w := by
 have scal : ∀ {t : Ty} {x : den t} {v : Value}, EV m t x v → t.isAgg = false → Enc m t x [v] := by
  intro t x v h ha
  obtain ⟨cs, h1, h2⟩ := h
  rw [ha] at h2
  simp only [ofCells, Bool.false_eq_true, if_false] at h2
  rw [← h2]; exact h1
 cases t with
 | int k =>
  have h1 := scal hu rfl; have h2 := scal hv rfl
  unfold Enc at h1 h2
  cases h1; cases h2
  rcases he with rfl | rfl <;> simp [binOp, Op.intCmp, eqD] <;> rfl
 | bool =>
  have h1 := scal hu rfl; have h2 := scal hv rfl
  unfold Enc at h1 h2
  cases h1; cases h2
  rcases he with rfl | rfl <;> simp [binOp, heq]
 | str =>
  have h1 := scal hu rfl; have h2 := scal hv rfl
  unfold Enc at h1 h2
  cases h1; cases h2
  rcases he with rfl | rfl <;> simp [binOp, Op.stringOp, eqD]
 | slice s => exact absurd rfl (hsl s)
 | hnd i s => exact absurd rfl (hh i s)
 | struct fs =>
  obtain ⟨cs, _, h1⟩ := hu
  obtain ⟨ds, _, h2⟩ := hv
  simp only [ofCells, Ty.isAgg, if_true] at h1 h2
  subst h1 h2
  rcases he with rfl | rfl <;> simp [binOp, heq]
 | arr n s =>
  obtain ⟨cs, _, h1⟩ := hu
  obtain ⟨ds, _, h2⟩ := hv
  simp only [ofCells, Ty.isAgg, if_true] at h1 h2
  subst h1 h2
  rcases he with rfl | rfl <;> simp [binOp, heq]
theorem eqGuard_int {P : Program} {T : TypeId} {op : BinOp} {x y : Operand} {k k' : IntKind} {a b : Int} {w : World} : (eqGuard op T x y (.int k a) (.int k' b)).run P w = .ok () w := by
 cases op <;> simp [eqGuard]
theorem free_binOp {op : BinOp} {T T' : TypeId} {x y : Operand} (hs : StateOK B E) (hte : ∀ T te, B.cx.te T = some te → TEok B.cx.P T te) (ho : o.op = .binOp op T x y T') (hx : CV E (av x) (ρ x)) (hy : CV E (av y) (ρ y))
  (h : opf B.cx E.H av site o.op g = some r) : FreeGoal B E o ρ F CS site g r := by
 rw [ho] at h
 simp only [opf] at h
 have key : ∀ a v, g a none = some r → (∀ E, CV E a v) → (eqGuard op T x y (ρ x) (ρ y)).run B.cx.P E.m.w = .ok () E.m.w → (binOp op T (ρ x) (ρ y)).run B.cx.P E.m.w = .ok v E.m.w → FreeGoal B E o ρ F CS site g r := by
  intro a v hg hcv h1 h2
  exact ⟨a, none, hg, .pure hs (v := v) (by simp [execOp, ho, h1, h2]) (hcv E)⟩
 have rest : eqTy B.cx E.H op T (av x) (av y) (fun a => g a none) = some r → FreeGoal B E o ρ F CS site g r := by
  intro h
  unfold eqTy at h
  split at h
  ·rename_i sz ag dd t zz hT
   split at h
   ·rename_i a b ha hb
    have hE := ((hte _ _ hT).ty t rfl).2.2 rfl
    have hu := toDat_EV hs.lent hx ha
    have hv := toDat_EV hs.lent hy hb
    have hop : op = .eql ∨ op = .neq := by
     unfold eqOp at h
     split at h <;> simp_all
    have h1 := hE.plain.1
    have h2 := hE.plain.2
    have hb2 := binOp_equal (P := B.cx.P) (w := E.m.w) hu hv hop (hE.eq _ _ _ _ _ _ hu hv) h1 h2
    refine key (.dat .bool (if op = .eql then eqD t a b else !(eqD t a b))) _ ?_ (fun E => CV.bool _) (eqGuard_ok hE hu hv h1) hb2
    unfold eqOp at h
    rcases hop with rfl | rfl <;> simpa using h
   ·cases h
  ·cases h
 unfold binA at h
 split at h
 ·split at h
  ·rename_i k n k' m hav hbv
   rw [hav] at hx; rw [hbv] at hy
   have e1 := hx.int_inv; have e2 := hy.int_inv
   unfold shOp at h
   by_cases hneg : m < 0
   ·rw [decide_eq_true hneg] at h; cases h
   ·rw [decide_eq_false hneg] at h
    exact key _ (.int k (k.wrap (n * 2 ^ (min m.toNat k.bits)))) h (fun E => CV.int _ _) (by rw [e1, e2]; exact eqGuard_int) (by rw [e1, e2]; simp [binOp, Op.shift, hneg])
  ·cases h
 ·split at h
  ·rename_i k n k' m hav hbv
   rw [hav] at hx; rw [hbv] at hy
   have e1 := hx.int_inv; have e2 := hy.int_inv
   unfold shOp at h
   by_cases hneg : m < 0
   ·rw [decide_eq_true hneg] at h; cases h
   ·rw [decide_eq_false hneg] at h
    exact key _ (.int k (n.fdiv (2 ^ (min m.toNat k.bits)))) h (fun E => CV.int _ _) (by rw [e1, e2]; exact eqGuard_int) (by rw [e1, e2]; simp [binOp, Op.shift, hneg])
  ·cases h
 ·rename_i hsl hsr
  split at h
  ·rename_i k n k' m hav hbv
   rw [hav] at hx; rw [hbv] at hy
   have e1 := hx.int_inv; have e2 := hy.int_inv
   split at h
   ·rename_i hk
    subst hk
    obtain ⟨a, v, h1, h2, h3⟩ := intOp_ok (T := T) (P := B.cx.P) (w := E.m.w) ⟨by intro e; exact hsl e, by intro e; exact hsr e⟩ h
    exact key a v h1 h3 (by rw [e1, e2]; exact eqGuard_int) (by rw [e1, e2]; exact h2)
   ·cases h
  ·exact rest h
end
end Go.Gh
/- The ghost machine: free operations, the second part: addresses, slices, built values, builtins. Conditions: as each lemma states. -/
namespace Go.Gh
theorem offK_snoc : ∀ (p : List Nat) (s : Sk) (k : Nat), offK s (p ++ [k]) = offK s p + offK (skAt s p) [k]
 | [], s, k => by simp [offK, skAt]
 | i :: p, .node l, k => by
  simp only [List.cons_append, offK, skAt]
  cases h : l[i]? with
  | none =>
   have h1 : l.getD i .one = .one := by simp [List.getD, h]
   have h2 : l.getD i .bad = .bad := by simp [List.getD, h]
   have z1 : ∀ q : List Nat, offK .one q = 0 := fun q => by cases q <;> simp [offK]
   have z2 : ∀ q : List Nat, skAt .bad q = .bad := fun q => by cases q <;> simp [skAt]
   rw [h1, h2, z1, z1, z2]; simp [offK]
  | some a =>
   have h1 : l.getD i .one = a := by simp [List.getD, h]
   have h2 : l.getD i .bad = a := by simp [List.getD, h]
   rw [h1, h2, offK_snoc p a k]; omega
 | i :: p, .rep n s, k => by simp only [List.cons_append, offK, skAt]; rw [offK_snoc p s k]; omega
 | i :: p, .one, k => by simp [offK, skAt]
 | i :: p, .bad, k => by simp [offK, skAt]
section
variable {R : Type} {B : Base} {E : Env} {o : Oper} {av : Operand → AV} {ρ : Operand → Value} {F : Frame} {CS : List Frame} {site : Nat} {g : AV → New → Option R} {r : R}
theorem run_fieldAt {P : Program} {w : World} {T : TypeId} {fs : Array Field} {f : Field} {k : Nat} {i : TypeInfo} {b off : Nat} (h : P.underlying T = some (.struct fs)) (hk : fs[k]? = some f) (hi : P.info? f.type = some i) (hz : i.size ≠ 0) :
  (Instr.fieldAt T (.pointer (some ⟨b, off, none⟩)) k).run P w = .ok (.pointer (some ⟨b, off + f.offset, none⟩)) w := by
 simp only [Instr.fieldAt, Sem.run_bind, run_und h, Result.andThen_ok, hk, Instr.sureAddr, Sem.run_pure, fieldPlace, run_siz hi, if_neg hz, add_at]
theorem free_fieldAddr {T : TypeId} {x : Operand} {k : Nat} (hs : StateOK B E) (hte : ∀ T te, B.cx.te T = some te → TEok B.cx.P T te) (ho : o.op = .fieldAddr T x k) (hx : CV E (av x) (ρ x))
  (h : opf B.cx E.H av site o.op g = some r) : FreeGoal B E o ρ F CS site g r := by
 rw [ho] at h
 simp only [opf] at h
 split at h
 ·rename_i sz ag offs szs ty eqq zz hT
  obtain ⟨d, h1, _, h2⟩ := (hte _ _ hT).desc
  simp only [DOK] at h2
  obtain ⟨fs, rfl, hsz, _, hf⟩ := h2
  split at h
  ·rename_i off hoff
   obtain ⟨f, i, h3, h4, h5, h6, _⟩ := hf k off hoff
   have run : ∀ b a, ρ x = .pointer (some ⟨b, a, none⟩) → (execOp ρ o).run B.cx.P E.m.w = .ok (.value (.pointer (some ⟨b, a + off, none⟩))) E.m.w := by
    intro b a hp
    simp only [execOp, ho, hp, Sem.run_bind, run_fieldAt h1 h3 h5 h6, Result.andThen_ok, h4, Sem.run_pure]
   split at h
   ·rename_i id p hav
    rw [hav] at hx
    have hc := hx.one rfl (by simp [skA])
    unfold CC at hc
    obtain ⟨v, e, hv1, hv2⟩ := hc
    cases e
    split at h
    ·rename_i b hl
     obtain ⟨kb, hk, hv⟩ := hv2 b hl
     split at h
     ·rename_i l hsk
      split at h
      ·rename_i hcond
       refine ⟨_, _, h, .pure hs (run _ _ hv) (CV.of1 ?_ rfl)⟩
       unfold CC
       refine ⟨_, rfl, rfl, fun b' hl' => ?_⟩
       rw [hl] at hl'; cases hl'
       refine ⟨kb, hk, ?_⟩
       rw [offK_snoc, hsk]
       simp only [offK, Nat.add_zero, hcond.2]
      ·cases h
     ·cases h
    ·cases h
   ·rename_i ts y hav
    rw [hav] at hx
    have hc := hx.one rfl (by simp [skA])
    unfold CC at hc
    obtain ⟨kb, o1, es, e, hc1, hc2⟩ := hc
    have hv := (List.cons.inj e).1
    split at h
    ·rename_i hcond
     split at h
     ·rename_i t z hfz
      unfold Enc at hc1
      obtain ⟨q1, q2⟩ := EncL.field ts hc1 hfz
      refine ⟨_, _, h, .pure hs (run _ _ hv) (CV.of1 ?_ rfl)⟩
      unfold CC
      rw [hcond] at q2
      exact ⟨kb, o1 + off, _, rfl, q2, hc2.sub (o := off) (n := size t)⟩
     ·cases h
    ·cases h
   ·rename_i i ts y hav
    rw [hav] at hx
    have hc := hx.one rfl (by simp [skA])
    unfold CC at hc
    unfold Enc at hc
    obtain ⟨kb, es, km, e, hc1, hc2, hc3⟩ := hc
    have hv := (List.cons.inj e).1
    split at h
    ·rename_i hcond
     have hlen : es.length = sizeL ts := by have := Enc.len _ hc1; simpa [size] using this
     split at h
     ·rename_i hkl
      refine ⟨_, _, h, .pure hs (run _ _ hv) (CV.of1 ?_ rfl)⟩
      unfold CC
      refine ⟨kb, 0 + off, km, rfl, ?_, hc3⟩
      have h8 := hc2.sub (o := off) (n := 1)
      have h9 : cut (es ++ [Value.map (some km)]) off 1 = [.map (some km)] := by
       have : off = es.length := by rw [← hcond, hkl, List.take_length, hlen]
       rw [cut, this, List.drop_left]; rfl
      rw [h9] at h8
      exact h8
     ·split at h
      ·rename_i t z hfz
       unfold Enc at hc1
       obtain ⟨q1, q2⟩ := EncL.field ts hc1 hfz
       refine ⟨_, _, h, .pure hs (run _ _ hv) (CV.of1 ?_ rfl)⟩
       unfold CC
       rw [hcond] at q2
       refine ⟨kb, 0 + off, _, rfl, q2, ?_⟩
       have h8 := hc2.sub (o := off) (n := size t)
       have h9 : cut (es ++ [Value.map (some km)]) off (size t) = cut es off (size t) := by
        have := sizeL_take_le ts k t q1
        rw [cut, cut, List.drop_append_of_le_length (by omega), List.take_append_of_le_length]
        rw [List.length_drop]; omega
       rw [h9] at h8
       exact h8
      ·cases h
    ·cases h
   ·cases h
  ·cases h
 ·cases h
theorem sizeKL_take_all {esz : Nat} : ∀ (l : List Sk) (i : Nat), (l.all fun s => sizeK s == esz) = true → i ≤ l.length → sizeKL (l.take i) = i * esz
 | _, 0, _, _ => by simp [sizeKL]
 | [], i + 1, _, h => by simp at h
 | s :: l, i + 1, h, hi => by
  simp only [List.all_cons, Bool.and_eq_true, beq_iff_eq] at h
  simp only [List.take_succ_cons, sizeKL, h.1, sizeKL_take_all l i h.2 (by simpa using hi), Nat.add_mul]
  omega
theorem run_indexAt_arr {P : Program} {w : World} {T e : TypeId} {n : Nat} {i : TypeInfo} {b off : Nat} {k : IntKind} {j : Int} (h : P.underlying T = some (.array n e)) (hi : P.info? e = some i) (h0 : 0 ≤ j) (h1 : j < n) :
  (Instr.indexAt T (.pointer (some ⟨b, off, none⟩)) (.int k j)).run P w = .ok (.pointer (some ⟨b, off + j.toNat * i.size, none⟩)) w := by
 simp [Instr.indexAt, asIntOf, run_und h, Instr.sureAddr, run_siz hi, h0, h1, add_at]
theorem run_indexAt_slice {P : Program} {w : World} {T e : TypeId} {n cap : Nat} {i : TypeInfo} {b off : Nat} {k : IntKind} {j : Int} (h : P.underlying T = some (.slice e)) (hi : P.info? e = some i) (h0 : 0 ≤ j) (h1 : j < n) :
  (Instr.indexAt T (.slice (some ⟨b, off, none⟩) n cap) (.int k j)).run P w = .ok (.pointer (some ⟨b, off + j.toNat * i.size, none⟩)) w := by
 simp [Instr.indexAt, asIntOf, run_und h, Instr.sureAddr, run_siz hi, h0, h1, add_at]
theorem bnd {i : Int} {n : Nat} {x : Option R} (h : cond (decide (0 ≤ i) && decide (i < (n : Int))) x none = some r) : 0 ≤ i ∧ i < n ∧ x = some r := by
 by_cases h0 : 0 ≤ i
 ·by_cases h1 : i < n
  ·simp [h0, h1] at h; exact ⟨h0, h1, h⟩
  ·simp [h0, h1] at h
 ·simp [h0] at h
theorem free_indexAddr {T : TypeId} {x ix : Operand} (hs : StateOK B E) (hte : ∀ T te, B.cx.te T = some te → TEok B.cx.P T te) (ho : o.op = .indexAddr T x ix) (hx : CV E (av x) (ρ x)) (hix : CV E (av ix) (ρ ix))
  (h : opf B.cx E.H av site o.op g = some r) : FreeGoal B E o ρ F CS site g r := by
 rw [ho] at h
 simp only [opf] at h
 split at h
 ·rename_i sz ag n el esz ty eqq zz k i hT hai
  rw [hai] at hix
  have hi := hix.int_inv
  obtain ⟨d, h1, _, h2⟩ := (hte _ _ hT).desc
  simp only [DOK] at h2
  obtain ⟨rfl, ei, h3, h4⟩ := h2
  have run : ∀ b a, 0 ≤ i → i < n → ρ x = .pointer (some ⟨b, a, none⟩) → (execOp ρ o).run B.cx.P E.m.w = .ok (.value (.pointer (some ⟨b, a + i.toNat * esz, none⟩))) E.m.w := by
   intro b a hi0 hi1 hp
   simp only [execOp, ho, hp, hi, Sem.run_bind, run_indexAt_arr h1 h3 hi0 hi1, Result.andThen_ok, h4, Sem.run_pure]
  split at h
  ·rename_i id p hav
   rw [hav] at hx
   have hc := hx.one rfl (by simp [skA])
   unfold CC at hc
   obtain ⟨v, e, hv1, hv2⟩ := hc
   cases e
   split at h
   ·rename_i b hl
    obtain ⟨kb, hk, hv⟩ := hv2 b hl
    split at h
    ·rename_i m s hsk
     split at h
     ·rename_i hcond
      obtain ⟨hi0, hi1, h⟩ := bnd h
      refine ⟨_, _, h, .pure hs (run _ _ hi0 hi1 hv) (CV.of1 ?_ rfl)⟩
      unfold CC
      refine ⟨_, rfl, rfl, fun b' hl' => ?_⟩
      rw [hl] at hl'; cases hl'
      refine ⟨kb, hk, ?_⟩
      rw [offK_snoc, hsk]
      simp only [offK, Nat.add_zero, hcond]
     ·cases h
    ·rename_i l hsk
     split at h
     ·rename_i hcond
      obtain ⟨hi0, hi1, h⟩ := bnd h
      obtain ⟨_, _, h⟩ := splitN_spec h
      refine ⟨_, _, h, .pure hs (run _ _ hi0 hi1 hv) (CV.of1 ?_ rfl)⟩
      unfold CC
      refine ⟨_, rfl, rfl, fun b' hl' => ?_⟩
      rw [hl] at hl'; cases hl'
      refine ⟨kb, hk, ?_⟩
      rw [offK_snoc, hsk]
      simp only [offK, Nat.add_zero]
      rw [sizeKL_take_all l _ hcond.1 (by rw [hcond.2]; omega)]
     ·cases h
    ·cases h
   ·cases h
  ·rename_i m t y hav
   rw [hav] at hx
   have hc := hx.one rfl (by simp [skA])
   unfold CC at hc
   obtain ⟨kb, o1, es, e, hc1, hc2⟩ := hc
   have hv := (List.cons.inj e).1
   split at h
   ·rename_i hcond
    obtain ⟨hi0, hi1, h⟩ := bnd h
    refine ⟨_, _, h, .pure hs (run _ _ hi0 hi1 hv) (CV.of1 ?_ rfl)⟩
    unfold Enc at hc1
    have hlt : i.toNat < List.length y := by rw [hc1.1, hcond.1]; omega
    have q := hc1.2.get (s := size t) (fun x cs p => Enc.len t p) hlt (dflt t)
    rw [hcond.2] at q
    unfold CC
    exact ⟨kb, _, _, rfl, q, hc2.sub (o := i.toNat * esz) (n := esz)⟩
   ·cases h
  ·cases h
 ·rename_i sz ag el esz ty eqq zz k i hT hai
  rw [hai] at hix
  have hi := hix.int_inv
  obtain ⟨d, h1, _, h2⟩ := (hte _ _ hT).desc
  simp only [DOK] at h2
  obtain ⟨rfl, ei, h3, h4, _⟩ := h2
  have run : ∀ b a n cap, 0 ≤ i → i < (n : Nat) → ρ x = .slice (some ⟨b, a, none⟩) n cap → (execOp ρ o).run B.cx.P E.m.w = .ok (.value (.pointer (some ⟨b, a + i.toNat * esz, none⟩))) E.m.w := by
   intro b a n cap hi0 hi1 hp
   simp only [execOp, ho, hp, hi, Sem.run_bind, run_indexAt_slice h1 h3 hi0 hi1, Result.andThen_ok, h4, Sem.run_pure]
  split at h
  ·rename_i t xs hav
   rw [hav] at hx
   have hc := hx.one rfl (by simp [skA, skT])
   unfold CC at hc
   unfold Enc at hc
   obtain ⟨a, cap, e, hcap, hc1⟩ := hc
   have hv := (List.cons.inj e).1
   split at h
   ·rename_i hcond
    obtain ⟨hi0, hi1, h⟩ := bnd h
    have hlt : i.toNat < List.length xs := by omega
    obtain ⟨kb, off, es, rfl, hc2, hc3⟩ := hc1 (by intro e; subst e; simp at hlt)
    refine ⟨_, _, h, .pure hs (run _ _ _ _ hi0 hi1 hv) (CV.of1 ?_ rfl)⟩
    have q := hc2.get (s := size t) (fun x cs p => Enc.len t p) hlt (dflt t)
    rw [hcond] at q
    unfold CC
    exact ⟨kb, _, _, rfl, q, hc3.sub (o := i.toNat * esz) (n := esz)⟩
   ·cases h
  ·rename_i id hav
   rw [hav] at hx
   have hc := hx.one rfl (by simp [skA])
   unfold CC at hc
   obtain ⟨v, e, hv1, hv2⟩ := hc
   cases e
   split at h
   ·rename_i t xs l hl
    split at h
    ·rename_i hcond
     obtain ⟨hi0, hi1, h⟩ := bnd h
     rcases hv2 _ _ _ hl with ⟨_, rfl, _⟩ | ⟨kb, cap, e, p1, p2, p3, p4⟩
     ·simp at hi1; omega
     ·refine ⟨_, _, h, .pure hs (run _ _ _ _ hi0 hi1 p2) (CV.of1 ?_ rfl)⟩
      unfold CC
      refine ⟨_, rfl, rfl, fun b' hl' => ?_⟩
      rw [hl] at hl'; cases hl'
      refine ⟨kb, p1, ?_⟩
      simp only [skB, offK, Nat.add_zero, Nat.zero_add, ← size_sk, hcond]
    ·cases h
   ·cases h
  ·rename_i id lo len hav
   rw [hav] at hx
   have hc := hx.one rfl (by simp [skA])
   unfold CC at hc
   obtain ⟨v, e, hv1, _, hv2⟩ := hc
   cases e
   split at h
   ·rename_i b f hl
    split at h
    ·rename_i m s hsk
     split at h
     ·rename_i hcond
      obtain ⟨hi0, hi1, h⟩ := bnd h
      obtain ⟨g1, a, cap, p2, p3, p4⟩ := hv2 _ _ _ _ hl hsk (by omega)
      obtain ⟨kb, p1, rfl⟩ := p4 (by omega)
      refine ⟨_, _, h, .pure hs (run _ _ _ _ hi0 hi1 p2) (CV.of1 ?_ rfl)⟩
      unfold CC
      refine ⟨_, rfl, rfl, fun b' hl' => ?_⟩
      rw [hl] at hl'; cases hl'
      refine ⟨kb, p1, ?_⟩
      simp only [skB, hsk, offK, Nat.add_zero, hcond, Nat.add_mul]
     ·cases h
    ·cases h
   ·cases h
  ·cases h
 ·cases h
theorem bndle {i : Int} {n : Nat} {x : Option R} (h : cond (decide (0 ≤ i) && decide (i ≤ (n : Int))) x none = some r) : 0 ≤ i ∧ i ≤ n ∧ x = some r := by
 by_cases h0 : 0 ≤ i
 ·by_cases h1 : i ≤ n
  ·simp [h0, h1] at h; exact ⟨h0, h1, h⟩
  ·simp [h0, h1] at h
 ·simp [h0] at h
theorem run_slice_hi {P : Program} {w : World} {T e : TypeId} {n cap : Nat} {i : TypeInfo} {a : Option Addr} {k : IntKind} {j : Int} (h : P.underlying T = some (.slice e)) (hi : P.info? e = some i) (h0 : 0 ≤ j) (h1 : j ≤ cap) :
  (Instr.sliceAt T (.slice a n cap) none (some (.int k j)) none).run P w = .ok (.slice a j.toNat cap) w := by
 have h2 : (if cap = 0 then a else Option.map (fun x => x.add 0) a) = a := by
  split
  ·rfl
  ·cases a with
   | none => rfl
   | some a => simp [Addr.add]
 simp [Instr.sliceAt, run_und h, Instr.slice, Instr.sliceBounds, Instr.sliceBound, asIntOf, h0, h1, run_siz hi, h2]
theorem run_slice_lo {P : Program} {w : World} {T e : TypeId} {n cap : Nat} {i : TypeInfo} {a : Option Addr} {k : IntKind} {j : Int} (h : P.underlying T = some (.slice e)) (hi : P.info? e = some i) (h0 : 0 ≤ j) (h1 : j ≤ n) :
  (Instr.sliceAt T (.slice a n cap) (some (.int k j)) none none).run P w = .ok (.slice (if cap = j.toNat then a else a.map (·.add (j.toNat * i.size))) (n - j.toNat) (cap - j.toNat)) w := by
 simp [Instr.sliceAt, run_und h, Instr.slice, Instr.sliceBounds, Instr.sliceBound, asIntOf, h0, h1, run_siz hi]
theorem lo_addr {cap lo sz k off : Nat} (hlt : lo < cap) : (if cap = lo then (some ⟨k, off, none⟩ : Option Addr) else (some ⟨k, off, none⟩ : Option Addr).map (·.add (lo * sz))) = some ⟨k, off + lo * sz, none⟩ := by
 rw [if_neg (by omega)]
 simp [add_at]
theorem bnd3 {l h : Int} {n : Nat} {x : Option R} (q : cond (decide (0 ≤ l) && decide (l ≤ h) && decide (h ≤ (n : Int))) x none = some r) : 0 ≤ l ∧ l ≤ h ∧ h ≤ n ∧ x = some r := by
 by_cases h0 : 0 ≤ l
 ·by_cases h1 : l ≤ h
  ·by_cases h2 : h ≤ n
   ·simp [h0, h1, h2] at q; exact ⟨h0, h1, h2, q⟩
   ·simp [h0, h1, h2] at q
  ·simp [h0, h1] at q
 ·simp [h0] at q
theorem bndA_ok {d l : Int} {x : Option Operand} (h : bndA av d x = some l) (hx : ∀ y, x = some y → CV E (av y) (ρ y)) : (x = none ∧ l = d) ∨ ∃ y k, x = some y ∧ ρ y = .int k l := by
 unfold bndA at h
 split at h
 ·cases h; exact .inl ⟨rfl, rfl⟩
 ·rename_i y
  split at h
  ·rename_i k i hav
   cases h
   have := hx y rfl
   rw [hav] at this
   exact .inr ⟨y, k, rfl, this.int_inv⟩
  ·cases h
theorem run_arrSlice {P : Program} {w : World} {T e : TypeId} {n : Nat} {ei : TypeInfo} {x : Operand} {lo hi : Option Operand} {k off : Nat} {l h : Int} (hd : P.underlying T = some (.array n e)) (hei : P.info? e = some ei) (ho : o.op = .slice T x lo hi none) (hv : ρ x = .pointer (some ⟨k, off, none⟩))
  (hlb : (lo = none ∧ l = 0) ∨ ∃ y k, lo = some y ∧ ρ y = .int k l) (hhb : (hi = none ∧ h = n) ∨ ∃ y k, hi = some y ∧ ρ y = .int k h) (h0 : 0 ≤ l) (h1 : l ≤ h) (h3 : h ≤ n) :
  (execOp ρ o).run P w = .ok (.value (.slice (some (if n = l.toNat then ⟨k, off, none⟩ else ⟨k, off + l.toNat * ei.size, none⟩)) (h - l).toNat (n - l.toNat))) w := by
 have hadd : (if n = l.toNat then (⟨k, off, none⟩ : Addr) else (⟨k, off, none⟩ : Addr).add (l.toNat * ei.size)) = if n = l.toNat then ⟨k, off, none⟩ else ⟨k, off + l.toNat * ei.size, none⟩ := by
  split
  ·rfl
  ·simp [add_at]
 have e2 : h.toNat - l.toNat = (h - l).toNat := by omega
 have e3 : 0 ≤ h := by omega
 rw [← hadd, ← e2]
 rcases hlb with ⟨rfl, rfl⟩ | ⟨y, k1, rfl, hy⟩
 ·rcases hhb with ⟨rfl, rfl⟩ | ⟨y2, k2, rfl, hy2⟩
  ·simp [execOp, ho, hv, Instr.sliceAt, run_und hd, Instr.sureAddr, Instr.sliceBounds, run_siz hei]
  ·simp [execOp, ho, hv, Instr.sliceAt, run_und hd, Instr.sureAddr, Instr.sliceBounds, Instr.sliceBound, asIntOf, hy2, e3, h3, run_siz hei]
 ·rcases hhb with ⟨rfl, rfl⟩ | ⟨y2, k2, rfl, hy2⟩
  ·simp [execOp, ho, hv, Instr.sliceAt, run_und hd, Instr.sureAddr, Instr.sliceBounds, Instr.sliceBound, asIntOf, hy, h0, h1, run_siz hei]
  ·simp [execOp, ho, hv, Instr.sliceAt, run_und hd, Instr.sureAddr, Instr.sliceBounds, Instr.sliceBound, asIntOf, hy, hy2, h0, h3, e3, run_siz hei]
   intro hc
   omega
theorem free_slice {T : TypeId} {x : Operand} {lo hi : Option Operand} (hs : StateOK B E) (hte : ∀ T te, B.cx.te T = some te → TEok B.cx.P T te) (ho : o.op = .slice T x lo hi none) (hx : CV E (av x) (ρ x))
  (hlo : ∀ y, lo = some y → CV E (av y) (ρ y)) (hhi : ∀ y, hi = some y → CV E (av y) (ρ y))
  (h : opf B.cx E.H av site o.op g = some r) : FreeGoal B E o ρ F CS site g r := by
 rw [ho] at h
 simp only [opf] at h
 split at h
 ·rename_i sz ag el esz ty eqq zz hT
  obtain ⟨d, h1, _, h2⟩ := (hte _ _ hT).desc
  simp only [DOK] at h2
  obtain ⟨rfl, ei, h3, h4, _⟩ := h2
  split at h
  ·rename_i t xs y hav
   rw [hav] at hx
   have hc := hx.one rfl (by simp [skA, skT])
   unfold CC at hc
   unfold Enc at hc
   obtain ⟨a, cap, e, hcap, hc1⟩ := hc
   have hv := (List.cons.inj e).1
   split at h
   ·rename_i k n hay
    have hy := hhi y rfl
    rw [hay] at hy
    have hn := hy.int_inv
    split at h
    ·rename_i hcond
     obtain ⟨hi0, hi1, hg⟩ := bndle h
     refine ⟨_, _, hg, .pure hs (v := .slice a n.toNat cap) ?_ (CV.of1 ?_ rfl)⟩
     ·simp only [execOp, ho, hv, hn, Option.map, Sem.run_bind, run_slice_hi h1 h3 hi0 (Int.le_trans hi1 (Int.ofNat_le.2 hcap)), Result.andThen_ok, Sem.run_pure]
     ·unfold CC
      unfold Enc
      have hl : List.length (List.take n.toNat xs) = n.toNat := by rw [List.length_take]; omega
      refine ⟨a, cap, by rw [hl], by rw [hl]; omega, fun hne => ?_⟩
      obtain ⟨kb, off, es, rfl, hc2, hc3⟩ := hc1 (by intro e; subst e; simp at hne)
      refine ⟨kb, off, _, rfl, hc2.take (s := size t) (fun x cs p => Enc.len t p) n.toNat, ?_⟩
      have := hc3.sub (o := 0) (n := n.toNat * size t)
      simpa [cut] using this
    ·cases h
   ·cases h
  ·rename_i t xs y hav
   rw [hav] at hx
   have hc := hx.one rfl (by simp [skA, skT])
   unfold CC at hc
   unfold Enc at hc
   obtain ⟨a, cap, e, hcap, hc1⟩ := hc
   have hv := (List.cons.inj e).1
   split at h
   ·rename_i k n hay
    have hy := hlo y rfl
    rw [hay] at hy
    have hn := hy.int_inv
    split at h
    ·rename_i hcond
     obtain ⟨hi0, hi1, hg⟩ := bndle h
     refine ⟨_, _, hg, .pure hs (v := .slice (if cap = n.toNat then a else a.map (·.add (n.toNat * ei.size))) (List.length xs - n.toNat) (cap - n.toNat)) ?_ (CV.of1 ?_ rfl)⟩
     ·simp only [execOp, ho, hv, hn, Option.map, Sem.run_bind, run_slice_lo h1 h3 hi0 hi1, Result.andThen_ok, Sem.run_pure]
     ·unfold CC
      unfold Enc
      have hl : List.length (List.drop n.toNat xs) = List.length xs - n.toNat := by rw [List.length_drop]
      refine ⟨_, cap - n.toNat, by rw [hl], by rw [hl]; omega, fun hne => ?_⟩
      have hlt : n.toNat < List.length xs := by
       rcases Nat.lt_or_ge n.toNat (List.length xs) with h9 | h9
       ·exact h9
       ·exact absurd (List.drop_eq_nil_of_le h9) hne
      obtain ⟨kb, off, es, rfl, hc2, hc3⟩ := hc1 (by intro e; subst e; simp at hlt)
      refine ⟨kb, off + n.toNat * size t, _, by rw [h4, ← hcond]; exact lo_addr (by omega), hc2.drop (s := size t) (fun x cs p => Enc.len t p) n.toNat, ?_⟩
      have := hc3.sub (o := n.toNat * size t) (n := es.length)
      have e9 : cut es (n.toNat * size t) es.length = es.drop (n.toNat * size t) := by rw [cut, List.take_of_length_le]; rw [List.length_drop]; omega
      rw [e9] at this
      exact this
    ·cases h
   ·cases h
  ·rename_i id y hav
   rw [hav] at hx
   have hc := hx.one rfl (by simp [skA])
   unfold CC at hc
   obtain ⟨v, e, hv1, hv2⟩ := hc
   cases e
   split at h
   ·rename_i k n t xs l hay hl
    have hy := hhi y rfl
    rw [hay] at hy
    have hn := hy.int_inv
    split at h
    ·rename_i hcond
     obtain ⟨hi0, hi1, hg⟩ := bndle h
     rcases hv2 _ _ _ hl with ⟨_, rfl, a, hv⟩ | ⟨kb, cap, e, p1, hv, p3, p4⟩
     ·have hn0 : n.toNat = 0 := by simp at hi1; omega
      refine ⟨_, _, hg, .pure hs (v := .slice a n.toNat 0) ?_ (CV.of1 ?_ rfl)⟩
      ·simp only [execOp, ho, hv, hn, Option.map, Sem.run_bind, run_slice_hi h1 h3 hi0 (show n ≤ (0 : Nat) by simpa using hi1), Result.andThen_ok, Sem.run_pure]
      ·unfold CC
       refine ⟨_, rfl, rfl, fun t' xs' l' hl' => ?_, fun b' f' n' s' hl' => by rw [hl] at hl'; cases hl'⟩
       rw [hl] at hl'; cases hl'
       exact ⟨by omega, a, 0, rfl, by omega, fun h => by omega⟩
     ·refine ⟨_, _, hg, .pure hs (v := .slice (some ⟨kb, 0, none⟩) n.toNat cap) ?_ (CV.of1 ?_ rfl)⟩
      ·simp only [execOp, ho, hv, hn, Option.map, Sem.run_bind, run_slice_hi h1 h3 hi0 (Int.le_trans hi1 (Int.ofNat_le.2 p3)), Result.andThen_ok, Sem.run_pure]
      ·unfold CC
       refine ⟨_, rfl, rfl, fun t' xs' l' hl' => ?_, fun b' f' n' s' hl' => by rw [hl] at hl'; cases hl'⟩
       rw [hl] at hl'; cases hl'
       exact ⟨by omega, _, cap, rfl, by omega, fun h => ⟨kb, p1, by simp⟩⟩
    ·cases h
   ·cases h
  ·rename_i id y hav
   rw [hav] at hx
   have hc := hx.one rfl (by simp [skA])
   unfold CC at hc
   obtain ⟨v, e, hv1, hv2⟩ := hc
   cases e
   split at h
   ·rename_i k n t xs l hay hl
    have hy := hlo y rfl
    rw [hay] at hy
    have hn := hy.int_inv
    split at h
    ·rename_i hcond
     obtain ⟨hi0, hi1, hg⟩ := bndle h
     rcases hv2 _ _ _ hl with ⟨_, rfl, a, hv⟩ | ⟨kb, cap, e, p1, hv, p3, p4⟩
     ·have hn0 : n.toNat = 0 := by simp at hi1; omega
      refine ⟨_, _, hg, .pure hs (v := .slice (if 0 = n.toNat then a else a.map (·.add (n.toNat * ei.size))) (0 - n.toNat) (0 - n.toNat)) ?_ (CV.of1 ?_ rfl)⟩
      ·simp only [execOp, ho, hv, hn, Option.map, Sem.run_bind, run_slice_lo h1 h3 hi0 (show n ≤ (0 : Nat) by simpa using hi1), Result.andThen_ok, Sem.run_pure]
      ·unfold CC
       refine ⟨_, rfl, rfl, fun t' xs' l' hl' => ?_, fun b' f' n' s' hl' => by rw [hl] at hl'; cases hl'⟩
       rw [hl] at hl'; cases hl'
       exact ⟨by simp; omega, _, 0 - n.toNat, rfl, by simp, fun h => by simp at h⟩
     ·refine ⟨_, _, hg, .pure hs (v := .slice (if cap = n.toNat then some ⟨kb, 0, none⟩ else (some ⟨kb, 0, none⟩ : Option Addr).map (·.add (n.toNat * ei.size))) (List.length xs - n.toNat) (cap - n.toNat)) ?_ (CV.of1 ?_ rfl)⟩
      ·simp only [execOp, ho, hv, hn, Option.map, Sem.run_bind, run_slice_lo h1 h3 hi0 hi1, Result.andThen_ok, Sem.run_pure]
      ·unfold CC
       refine ⟨_, rfl, rfl, fun t' xs' l' hl' => ?_, fun b' f' n' s' hl' => by rw [hl] at hl'; cases hl'⟩
       rw [hl] at hl'; cases hl'
       refine ⟨by omega, _, cap - n.toNat, rfl, by omega, fun h => ⟨kb, p1, ?_⟩⟩
       rw [lo_addr (by omega), h4, ← hcond, Nat.zero_add]
    ·cases h
   ·cases h
  ·cases h
 ·rename_i sz ag n e esz ty eqq zz hT
  obtain ⟨d, hd, _, h2⟩ := (hte _ _ hT).desc
  simp only [DOK] at h2
  obtain ⟨rfl, ei, hei, hesz⟩ := h2
  split at h
  ·rename_i m t y l hh hav hbl hbh
   split at h
   ·rename_i hcond
    obtain ⟨rfl, hsz⟩ := hcond
    obtain ⟨h0, h1, h3, h⟩ := bnd3 h
    rw [hav] at hx
    have hc := hx.one rfl (by simp [skA])
    unfold CC at hc
    obtain ⟨k, off, es, e1, he, hl⟩ := hc
    have hv := (List.cons.inj e1).1
    have hrun := run_arrSlice (o := o) (w := E.m.w) hd hei ho hv (bndA_ok hbl hlo) (bndA_ok hbh hhi) h0 h1 h3
    refine ⟨_, _, h, .pure hs hrun (CV.of1 ?_ rfl)⟩
    unfold Enc at he
    unfold CC
    unfold Enc
    have hlen : List.length (List.take (hh - l).toNat (List.drop l.toNat y)) = (hh - l).toNat := by
     rw [List.length_take, List.length_drop, he.1]; omega
    refine ⟨_, m - l.toNat, by rw [hlen], by rw [hlen]; omega, fun hne => ?_⟩
    have hpos : 0 < (hh - l).toNat := by
     rcases Nat.eq_zero_or_pos (hh - l).toNat with e0 | e0
     ·exact absurd (List.eq_nil_of_length_eq_zero (by rw [hlen, e0])) hne
     ·exact e0
    have hL : ∀ (x : den t) cs, Enc E.m t x cs → cs.length = size t := fun x cs p => Enc.len t p
    refine ⟨k, off + l.toNat * size t, _, by rw [if_neg (by omega), hesz, hsz], (he.2.drop hL l.toNat).take hL (hh - l).toNat, ?_⟩
    have := hl.sub (o := l.toNat * size t) (n := (hh - l).toNat * size t)
    simpa [cut] using this
   ·cases h
  ·rename_i id l hh hav hbl hbh
   rw [hav] at hx
   have hc := hx.one rfl (by simp [skA])
   unfold CC at hc
   obtain ⟨u, e1, _, hv2⟩ := hc
   have hv := (List.cons.inj e1).1
   split at h
   ·rename_i b f hlk
    split at h
    ·rename_i m s hsk
     split at h
     ·rename_i hcond
      obtain ⟨hm, hsz⟩ := hcond
      obtain ⟨h0, h1, h3, h⟩ := bnd3 h
      obtain ⟨k, hk, hp⟩ := hv2 _ hlk
      have hrun := run_arrSlice (o := o) (w := E.m.w) hd hei ho (hv.trans hp) (bndA_ok hbl hlo) (bndA_ok hbh hhi) h0 h1 h3
      refine ⟨_, _, h, .pure hs hrun (CV.of1 ?_ rfl)⟩
      unfold CC
      refine ⟨_, rfl, rfl, fun t xs l' hl' => (by rw [hlk] at hl'; cases hl'), fun b' f' n' s' hl' hsk' hn' => ?_⟩
      rw [hlk] at hl'
      cases hl'
      rw [hsk] at hsk'
      cases hsk'
      refine ⟨by omega, _, _, rfl, by omega, fun hlt => ⟨k, hk, ?_⟩⟩
      simp only [offK, Nat.zero_add]
      rw [if_neg (by omega), hsz, hesz]
     ·cases h
    ·cases h
   ·cases h
  ·cases h
 ·cases h
theorem lenA_ok {E : Env} {a : AV} {n : Int} {v : Value} (hc : CV E a v) (h : lenA E.H a = some n) : ∃ (p : Option Addr) (m cap : Nat), v = .slice p m cap ∧ n = (m : Int) := by
 cases a with
 | dat t xs =>
  cases t <;> simp only [lenA] at h <;> first | cases h | skip
  rename_i t
  have h1 := hc.one rfl (by simp [skA, skT])
  unfold CC at h1
  unfold Enc at h1
  obtain ⟨a, cap, e, _⟩ := h1
  exact ⟨a, _, cap, (List.cons.inj e).1, rfl⟩
 | nilsl =>
  simp only [lenA] at h
  have h1 := hc.one rfl (by simp [skA])
  unfold CC at h1
  obtain ⟨a, e⟩ := h1
  cases h
  exact ⟨a, 0, 0, (List.cons.inj e).1, rfl⟩
 | row id =>
  simp only [lenA] at h
  have h1 := hc.one rfl (by simp [skA])
  unfold CC at h1
  obtain ⟨v', e, _, hv⟩ := h1
  cases e
  split at h
  ·rename_i t xs l hl
   cases h
   rcases hv _ _ _ hl with ⟨_, rfl, a, rfl⟩ | ⟨k, cap, e, _, rfl, _⟩
   ·exact ⟨a, 0, 0, rfl, rfl⟩
   ·exact ⟨_, _, cap, rfl, rfl⟩
  ·cases h
 | sub id lo len =>
  simp only [lenA] at h
  have h1 := hc.one rfl (by simp [skA])
  unfold CC at h1
  obtain ⟨v', e, _, hv, hv'⟩ := h1
  cases e
  split at h
  ·rename_i t xs l hl
   cases h
   obtain ⟨_, a, cap, rfl, _⟩ := hv _ _ _ hl
   exact ⟨a, len, cap, rfl, rfl⟩
  ·rename_i b f hl
   split at h
   ·rename_i m s hsk
    cases h
    obtain ⟨_, a, cap, rfl, _⟩ := hv' _ _ _ _ hl hsk (by omega)
    exact ⟨a, len, cap, rfl, rfl⟩
   ·cases h
  ·cases h
 | _ => simp [lenA] at h
theorem foldA_min {P : Program} {w : World} {E : Env} {k : IntKind} : ∀ {as : List AV} {vs : List Value} {x n : Int}, (as.length = vs.length ∧ ∀ (i : Nat) (a : AV) (v : Value), as[i]? = some a → vs[i]? = some v → CV E a v) → foldA imn k x as = some n →
  (vs.foldlM Builtin.min2 (.int k x)).run P w = .ok (.int k n) w
 | [], vs, x, n, hc, h => by
  have : vs = [] := List.eq_nil_of_length_eq_zero hc.1.symm
  subst this
  simp only [foldA, Option.some.injEq] at h
  subst h; rfl
 | a :: as, [], x, n, hc, h => by simp at hc
 | a :: as, v :: vs, x, n, hc, h => by
  have h0 := hc.2 0 a v rfl rfl
  cases a with
  | dat t y =>
   cases t <;> simp only [foldA] at h <;> first | cases h | skip
   rename_i k'
   split at h
   ·rename_i hk
    subst hk
    have := h0.int_inv
    subst this
    simp only [List.foldlM_cons, Sem.run_bind, Builtin.min2, Sem.run_pure, Result.andThen_ok]
    exact foldA_min ⟨by simpa using hc.1, fun i a v ha hv => hc.2 (i + 1) a v (by simpa using ha) (by simpa using hv)⟩ h
   ·cases h
  | _ => simp [foldA] at h
theorem foldA_max {P : Program} {w : World} {E : Env} {k : IntKind} : ∀ {as : List AV} {vs : List Value} {x n : Int}, (as.length = vs.length ∧ ∀ (i : Nat) (a : AV) (v : Value), as[i]? = some a → vs[i]? = some v → CV E a v) → foldA imx k x as = some n →
  (vs.foldlM Builtin.max2 (.int k x)).run P w = .ok (.int k n) w
 | [], vs, x, n, hc, h => by
  have : vs = [] := List.eq_nil_of_length_eq_zero hc.1.symm
  subst this
  simp only [foldA, Option.some.injEq] at h
  subst h; rfl
 | a :: as, [], x, n, hc, h => by simp at hc
 | a :: as, v :: vs, x, n, hc, h => by
  have h0 := hc.2 0 a v rfl rfl
  cases a with
  | dat t y =>
   cases t <;> simp only [foldA] at h <;> first | cases h | skip
   rename_i k'
   split at h
   ·rename_i hk
    subst hk
    have := h0.int_inv
    subst this
    simp only [List.foldlM_cons, Sem.run_bind, Builtin.max2, Sem.run_pure, Result.andThen_ok]
    exact foldA_max ⟨by simpa using hc.1, fun i a v ha hv => hc.2 (i + 1) a v (by simpa using ha) (by simpa using hv)⟩ h
   ·cases h
  | _ => simp [foldA] at h
theorem free_builtin {b : Builtin} {args : Array Operand} {argTypes : Array TypeId} (hna : b ≠ .append) (hs : StateOK B E) (hte : ∀ T te, B.cx.te T = some te → TEok B.cx.P T te) (ho : o.op = .call { callee := .builtin b, args, argTypes }) (hx : ∀ x ∈ args.toList, CV E (av x) (ρ x))
  (h : opf B.cx E.H av site o.op g = some r) : FreeGoal B E o ρ F CS site g r := by
 rw [ho] at h
 simp only [opf] at h
 have hmap : args.map ρ = (args.toList.map ρ).toArray := by rw [← Array.toList_map, Array.toArray_toList]
 split at h
 ·rename_i a hargs
  split at h
  ·rename_i T ts hty
   split at h
   ·rename_i sz ag el esz ty eqq zz hT
    split at h
    ·rename_i n hn
     obtain ⟨d, h1, _, h2⟩ := (hte _ _ hT).desc
     simp only [DOK] at h2
     obtain ⟨rfl, _⟩ := h2
     match hal : args.toList, hargs, hx with
     | [x], hargs, hx =>
      simp only [List.map_cons, List.map_nil, List.cons.injEq, and_true] at hargs
      have hc := hx x (by simp)
      rw [hargs] at hc
      obtain ⟨p, m, cap, hv, rfl⟩ := lenA_ok hc hn
      refine ⟨_, _, h, .pure hs (v := .int .i64 m) ?_ (CV.int _ _)⟩
      have hT0 : argTypes[0]? = some T := by rw [← Array.getElem?_toList, hty]; rfl
      have hA0 : (args.map ρ)[0]? = some (.slice p m cap) := by rw [hmap, hal]; simp [hv]
      simp [execOp, ho, resolve, invoke, builtin, Builtin.len_, hT0, hA0, run_und h1, goInt]
    ·cases h
   ·cases h
  ·cases h
 ·rename_i k x rest hargs
  split at h
  ·rename_i n hn
   match hal : args.toList, hargs, hx with
   | y :: ys, hargs, hx =>
    simp only [List.map_cons, List.cons.injEq] at hargs
    have hc := hx y (by simp)
    rw [hargs.1] at hc
    have hv := hc.int_inv
    refine ⟨_, _, h, .pure hs (v := .int k n) ?_ (CV.int _ _)⟩
    have hf := foldA_min (P := B.cx.P) (w := E.m.w) (E := E) (vs := ys.map ρ) (as := rest) ⟨by rw [← hargs.2]; simp, fun i a v ha hv => by
     rw [← hargs.2] at ha
     simp only [List.getElem?_map] at ha hv
     cases hy : ys[i]? with
     | none => rw [hy] at ha; cases ha
     | some z =>
      rw [hy] at ha hv
      cases ha; cases hv
      exact hx z (by simp [List.mem_of_getElem? hy])⟩ hn
    have hA : (args.map ρ).toList = .int k x :: ys.map ρ := by rw [hmap, hal]; simp [hv]
    have hm : (Builtin.min_ argTypes o.type (args.map ρ)).run B.cx.P E.m.w = .ok (.int k n) E.m.w := by unfold Builtin.min_; rw [hA]; exact hf
    simp [execOp, ho, resolve, invoke, builtin, hm]
  ·cases h
 ·rename_i k x rest hargs
  split at h
  ·rename_i n hn
   match hal : args.toList, hargs, hx with
   | y :: ys, hargs, hx =>
    simp only [List.map_cons, List.cons.injEq] at hargs
    have hc := hx y (by simp)
    rw [hargs.1] at hc
    have hv := hc.int_inv
    refine ⟨_, _, h, .pure hs (v := .int k n) ?_ (CV.int _ _)⟩
    have hf := foldA_max (P := B.cx.P) (w := E.m.w) (E := E) (vs := ys.map ρ) (as := rest) ⟨by rw [← hargs.2]; simp, fun i a v ha hv => by
     rw [← hargs.2] at ha
     simp only [List.getElem?_map] at ha hv
     cases hy : ys[i]? with
     | none => rw [hy] at ha; cases ha
     | some z =>
      rw [hy] at ha hv
      cases ha; cases hv
      exact hx z (by simp [List.mem_of_getElem? hy])⟩ hn
    have hA : (args.map ρ).toList = .int k x :: ys.map ρ := by rw [hmap, hal]; simp [hv]
    have hm : (Builtin.max_ argTypes o.type (args.map ρ)).run B.cx.P E.m.w = .ok (.int k n) E.m.w := by unfold Builtin.max_; rw [hA]; exact hf
    simp [execOp, ho, resolve, invoke, builtin, hm]
  ·cases h
 ·exact absurd rfl hna
 ·cases h
end
end Go.Gh
/- The ghost machine: plain data that is appended to. Conditions: as each lemma states. -/
namespace Go.Gh
section
variable {R : Type} {B : Base} {E : Env} {o : Oper} {av : Operand → AV} {ρ : Operand → Value} {F : Frame} {CS : List Frame} {site : Nat} {g : AV → New → Option R} {r : R}
theorem run_append_none {P : Program} {w : World} {T ty e : TypeId} {i : TypeInfo} (ht : P.underlying T = some (.slice e)) (hi : P.info? e = some i) (b a : Option Addr) (n c c' : Nat) (h : n ≤ c) :
  (Builtin.append_ #[T, T] ty #[.slice b n c, .slice a 0 c']).run P w = .ok (.slice b n c) w := by
 have hf : (Builtin.firstCells i.size 0 (.slice a 0 c')).run P w = .ok #[] w := by
  cases a with
  | none => simp [Builtin.firstCells]
  | some a =>
   have := run_firstCells_some (P := P) w i.size 0 a 0 c' [] (by simp) (fun j v hj => by simp at hj)
   simpa using this
 cases b with
 | none => simp [Builtin.append_, run_underlying ht, sizeOf, typeInfo, hi, Builtin.lenOf, h, hf]
 | some b => simp [Builtin.append_, run_underlying ht, sizeOf, typeInfo, hi, Builtin.lenOf, h, hf, storeCells]
theorem run_append_more {P : Program} {w : World} {T ty e : TypeId} {i : TypeInfo} {z : Value} (ht : P.underlying T = some (.slice e)) (hi : P.info? e = some i) (hz : i.zero = some z) (hzs : z.cells.size = i.size)
  (b : Option Addr) (sLen sCap : Nat) (olds : List Value) (hlo : olds.length = sLen * i.size) (hb : b = none → sLen = 0 ∧ sCap = 0) (holds : ∀ b', b = some b' → ∀ j v, olds[j]? = some v → w.cell? (b'.add j) = some v)
  (a : Addr) (n c : Nat) (news : List Value) (hl : news.length = n * i.size) (hnews : ∀ j v, news[j]? = some v → w.cell? (a.add j) = some v)
  (hg : sCap < sLen + n) (hlim : sLen + n ≤ 1152921504606846976) (hm : (sLen + n) * i.bytes ≤ 140737488355328) :
  ∃ w' arr cap, (Builtin.append_ #[T, T] ty #[.slice b sLen sCap, .slice (some a) n c]).run P w = .ok (.slice (some ⟨w.heap.size, 0, none⟩) (sLen + n) cap) w' ∧
   w'.heap = w.heap.push (.cells arr e (0, 0)) ∧ w'.os = w.os ∧ w'.tape = w.tape ∧ w'.output = w.output ∧ (olds ++ news) <+: arr.toList ∧ arr.size = cap * i.size ∧ sLen + n ≤ cap := by
 have hge := grownCap_ge w (sLen + n) sCap e
 have hsize : ∀ (cap : Nat), sLen + n ≤ cap → ((olds.toArray ++ news.toArray ++ Builtin.zeroCells z.cells (cap - (sLen + n))) : Array Value).size = cap * i.size := by
  intro cap hcap
  simp only [Array.size_append, List.size_toArray, size_zeroCells, hzs, hlo, hl, ← Nat.add_mul]
  congr 1; omega
 cases b with
 | none =>
  obtain ⟨rfl, rfl⟩ := hb rfl
  have h := run_append_nil (P := P) w T ty e i z ht hi hz a n c news hl hnews (by omega) (by omega) (by simp only [Nat.zero_add] at hm; omega)
  have ho : olds = [] := List.eq_nil_of_length_eq_zero (by simpa using hlo)
  subst ho
  simp only [Nat.zero_add, List.nil_append] at *
  refine ⟨_, _, _, h, rfl, rfl, rfl, rfl, ?_, ?_, hge⟩
  ·simp
  ·have := hsize _ hge
   simpa using this
 | some b =>
  have h := run_append_grow (P := P) w T ty e i z ht hi hz b sLen sCap olds hlo (holds b rfl) a n c news hl hnews hg (by omega) (growslice_fits hg (by omega))
  refine ⟨_, _, _, h, rfl, rfl, rfl, rfl, ?_, hsize _ hge, hge⟩
  simp
theorem slice_src (hs : StateOK B E) {t : Ty} {a : AV} {v : Value} {ys : List (den t)} (hc : CV E a v) (h : toDat E.H (.slice t) a = some ys) :
  ∃ p cap es, v = .slice p ys.length cap ∧ Rows (Enc E.m t) ys es ∧ (ys ≠ [] → ∃ k off, p = some ⟨k, off, none⟩ ∧ ∀ j u, es[j]? = some u → E.m.w.cell? ((⟨k, off, none⟩ : Addr).add j) = some u) := by
 obtain ⟨cs, h1, h2⟩ := toDat_EV hs.lent hc h
 unfold Enc at h1
 obtain ⟨p, cap, e, hcap, h3⟩ := h1
 subst e
 simp only [ofCells, Ty.isAgg, Bool.false_eq_true, if_false, List.cons.injEq, and_true] at h2
 by_cases hy : ys = []
 ·subst hy
  exact ⟨p, cap, [], h2.symm, rfl, fun h => absurd rfl h⟩
 ·obtain ⟨k, off, es, q1, q2, q3⟩ := h3 hy
  exact ⟨p, cap, es, h2.symm, q2, fun _ => ⟨k, off, q1, fun j u hj => by rw [add_at]; exact (q3 j u hj).1⟩⟩
theorem zero_size {P : Program} {T : TypeId} {te : TE} {z : AV} (h : TEok P T te) (hz : te.zero = some z) : ∃ i zv, P.info? T = some i ∧ i.zero = some zv ∧ i.size = te.size ∧ zv.cells.size = te.size := by
 obtain ⟨h1, h2, i, zv, h3, h4, h5⟩ := h.zero z hz
 obtain ⟨i', h6, h7⟩ := h.info
 rw [h3] at h6; cases h6
 obtain ⟨cs, p, q⟩ := h5 ⟨⟨default, fun _ _ => False, fun _ => none⟩, fun _ => none, []⟩
 refine ⟨i, zv, h3, h4, h7, ?_⟩
 rw [← h1, ← CC.len _ p, ← ofCells_cells p q, Array.length_toList]
theorem push_world' (hs : StateOK B E) {w' : World} {arr : Array Value} {e : TypeId} (hw : w'.heap = E.m.w.heap.push (.cells arr e (0, 0))) (q1 : w'.os = E.m.w.os) (q2 : w'.tape = E.m.w.tape) (q3 : w'.output = E.m.w.output) : WorldOK B E w' E.m.M := by
 have hsame : ∀ k, k < E.m.w.heap.size → w'.heap[k]? = E.m.w.heap[k]? := fun k hk => by rw [hw, Array.getElem?_push, if_neg (by omega)]
 refine ⟨by rw [hw]; simp, q1, q2, q3, fun k hk => .inl (hsame k hk), fun _ _ h => h, hs.late, ?_⟩
 intro km i t y hk
 obtain ⟨es, clock, mm, x, h1, h2, h3, h4⟩ := hs.memo km i t y hk
 have hle : E.m.le (E.world w' E.m.M).m := by
  refine ⟨fun k j v hc hm => ⟨?_, hm⟩, fun _ _ h => h, fun k x hk => ?_⟩
  ·have := cell_lt hc
   rw [← hc]; exact cell_block (hsame k this) j
  ·have := shape_lt hk
   rw [← hk]; exact shape_block (hsame k this)
 refine ⟨es, clock, mm, x, ?_, h2, h3, fun z hz => ?_⟩
 ·rw [← h1]; exact hsame km (lt_of_some h1)
 ·obtain ⟨kx, vx, p, q, s⟩ := h4 z hz
  exact ⟨kx, vx, p.mono hle, q.mono hle, s⟩
theorem push_world (hs : StateOK B E) (arr : Array Value) (e : TypeId) : WorldOK B E { E.m.w with heap := E.m.w.heap.push (.cells arr e (0, 0)) } E.m.M := push_world' hs rfl rfl rfl rfl
theorem fresh_not_mut (hs : StateOK B E) (j : Nat) : ¬ E.m.Mut E.m.w.heap.size j := by
 intro h
 rcases (hs.wri _ _).1 h with h | ⟨i, b, h1, h2, _⟩
 ·have := hs.fo.1 _ _ h
  have := hs.since.grow
  omega
 ·have := (hs.blk _ _ h1).lt h2
  omega
theorem free_append {args : Array Operand} {argTypes : Array TypeId} (hs : StateOK B E) (hte : ∀ T te, B.cx.te T = some te → TEok B.cx.P T te) (ho : o.op = .call { callee := .builtin .append, args, argTypes })
  (hx : ∀ x ∈ args.toList, CV E (av x) (ρ x)) (h : opf B.cx E.H av site o.op g = some r) : FreeGoal B E o ρ F CS site g r := by
 rw [ho] at h
 simp only [opf] at h
 split at h
 ·rename_i h0 _; cases h0
 ·rename_i h0 _; cases h0
 ·rename_i h0 _; cases h0
 ·rename_i t0 xs0 x _ hargs
  split at h
  ·rename_i T T' htys
   split at h
   ·rename_i hTT
    subst hTT
    split at h
    ·rename_i sz ag el esz ty eqq zz hT
     obtain ⟨d, hd, _, h2⟩ := (hte _ _ hT).desc
     simp only [DOK] at h2
     obtain ⟨rfl, ei, hei, hesz, hby⟩ := h2
     split at h
     ·rename_i sz' ag' d' t eqq' z hT'
      have hTe := hte _ _ hT'
      obtain ⟨hsz, hag, _⟩ := hTe.ty t rfl
      obtain ⟨ei', zv, hei', hz, hisz, hzsz⟩ := zero_size hTe rfl
      rw [hei] at hei'; cases hei'
      simp only at hsz hisz hzsz
      split at h
      ·rename_i ys xs hys hxs
       obtain ⟨h, lb1, lb2, _⟩ := limA_some h
       have hbt := hTe.bytes t rfl ei hei
       obtain ⟨ht, rfl⟩ := castT_spec hxs
       cases ht
       obtain ⟨a1, a2, rfl⟩ : ∃ a1 a2, args = #[a1, a2] := by
        have := congrArg List.length hargs
        rw [List.length_map] at this
        match hq : args.toList, this with
        | [a1, a2], _ => exact ⟨a1, a2, by rw [← Array.toArray_toList (xs := args), hq]⟩
       have htys : argTypes = #[T, T] := by rw [← Array.toArray_toList (xs := argTypes), htys]
       subst htys
       simp only [List.map_cons, List.map_nil, List.cons.injEq, and_true] at hargs
       obtain ⟨hs1, hs2⟩ := hargs
       have hc1 := hx a1 (by simp)
       have hc2 := hx a2 (by simp)
       rw [hs2] at hc2
       rw [hs1] at hc1
       obtain ⟨p, cap, es, hv2, hrows, hsrc⟩ := slice_src hs hc2 hys
       have hlen : es.length = ys.length * ei.size := by rw [Rows.len (s := size t0) (fun x cs p => Enc.len t0 p) hrows, hsz, hisz]
       have hc1 := hc1.one rfl (by simp [skA])
       unfold CC at hc1
       obtain ⟨b, e, henc⟩ := hc1
       have hv1 := (List.cons.inj e).1
       have hole : ∃ olds, Rows (Enc E.m t0) xs0 olds ∧ (b = none → xs0 = []) ∧ (∀ b', b = some b' → ∀ j v, olds[j]? = some v → E.m.w.cell? (b'.add j) = some v) := by
        unfold Enc at henc
        obtain ⟨p0, cap0, e0, _, h3⟩ := henc
        have hb0 : b = p0 := by
         rw [hv1] at e0
         have := (List.cons.inj e0).1
         injection this
        by_cases hy : xs0 = []
        ·subst hy
         exact ⟨[], rfl, fun _ => rfl, fun _ _ j v hj => by simp at hj⟩
        ·obtain ⟨k, off, es0, q1, q2, q3⟩ := h3 hy
         refine ⟨es0, q2, fun hb => ?_, fun b' hb' j v hj => ?_⟩
         ·rw [hb0, q1] at hb; cases hb
         ·rw [hb0, q1] at hb'
          cases hb'
          rw [add_at]
          exact (q3 j v hj).1
       obtain ⟨olds, ho1, ho2, ho3⟩ := hole
       have hlo : olds.length = xs0.length * ei.size := by rw [Rows.len (s := size t0) (fun x cs p => Enc.len t0 p) ho1, hsz, hisz]
       by_cases hy : ys = []
       ·subst hy
        have hm : (Builtin.append_ #[T, T] o.type #[ρ a1, ρ a2]).run B.cx.P E.m.w = .ok (ρ a1) E.m.w := by
         rw [hv1, hv2]
         exact run_append_none hd hei b p _ _ cap (Nat.le_refl _)
        refine ⟨_, _, h, .pure hs (v := ρ a1) ?_ (CV.of1 ?_ rfl)⟩
        ·simp [execOp, ho, resolve, invoke, builtin, hm]
        ·unfold CC
         rw [List.append_nil]
         exact henc
       ·obtain ⟨k, off, rfl, hcell⟩ := hsrc hy
        have hyl : 0 < ys.length := List.length_pos_iff.2 hy
        obtain ⟨w', arr, cap', q1, q2, q3, q4, q5, q6, q7, q8⟩ := run_append_more (P := B.cx.P) (w := E.m.w) (T := T) (ty := o.type) (e := el) (i := ei) (z := zv) hd hei hz (by rw [hzsz, hisz]) b xs0.length xs0.length olds hlo
         (fun hb => by rw [ho2 hb]; exact ⟨rfl, rfl⟩) ho3 ⟨k, off, none⟩ ys.length cap es hlen hcell (by omega) lb1 (Nat.le_trans (Nat.mul_le_mul_left _ hbt) lb2)
        have hw := push_world' hs q2 q3 q4 q5
        refine ⟨_, _, h, .inl ⟨rfl, .slice (some ⟨E.m.w.heap.size, 0, none⟩) (xs0.length + ys.length) cap', w', E.m.M, .inl ?_, hw, CV.of1 ?_ rfl⟩⟩
        ·have hm : (Builtin.append_ #[T, T] o.type #[ρ a1, ρ a2]).run B.cx.P E.m.w = .ok (.slice (some ⟨E.m.w.heap.size, 0, none⟩) (xs0.length + ys.length) cap') w' := by
          rw [hv1, hv2]; exact q1
         simp [execOp, ho, resolve, invoke, builtin, hm]
        ·unfold CC
         unfold Enc
         refine ⟨_, cap', by rw [List.length_append], by rw [List.length_append]; exact q8, fun hne => ⟨E.m.w.heap.size, 0, olds ++ es, rfl, ?_, fun j v hj => ⟨?_, ?_⟩⟩⟩
         ·exact (ho1.append hrows).mono fun x cs p => Enc.mono (world_le hs hw) t0 p
         ·have hj' : arr.toList[j]? = some v := by
           obtain ⟨tl, htl⟩ := q6
           rw [← htl, List.getElem?_append_left (List.getElem?_eq_some_iff.1 hj).1]
           exact hj
          simp only [Env.world, Mem.cell, World.cell?, q2, Array.getElem?_push, if_true, Nat.zero_add]
          simpa using hj'
         ·rw [Nat.zero_add]; exact fresh_not_mut hs j
      ·cases h
     ·cases h
    ·cases h
   ·cases h
  ·cases h
 ·cases h
end
end Go.Gh
/- The ghost machine: free operations, the third part: built values, calls by contract. Conditions: as each lemma states. -/
namespace Go.Gh
theorem fold_set (o : Nat) : ∀ (cs : List Value) (i : Nat) (arr : Array Value), (o + i) + cs.length ≤ arr.size →
  ((cs.zipIdx i).foldl (fun a x => a.setIfInBounds (o + x.2) x.1) arr).toList = put arr.toList (o + i) cs
 | [], i, arr, _ => by simp [put]
 | c :: cs, i, arr, h => by
  simp only [List.zipIdx_cons, List.foldl_cons]
  simp only [List.length_cons] at h
  rw [fold_set o cs (i + 1) _ (by simp; omega)]
  have hlt : o + i < arr.toList.length := by simp; omega
  simp only [put, Array.toList_setIfInBounds, List.length_cons]
  rw [List.set_eq_take_append_cons_drop, if_pos hlt]
  have e1 : (List.take (o + i) arr.toList).length = o + i := by rw [List.length_take]; omega
  have e2 : List.take (o + (i + 1)) (List.take (o + i) arr.toList ++ c :: List.drop (o + i + 1) arr.toList) = List.take (o + i) arr.toList ++ [c] := by
   rw [List.take_append, e1, List.take_of_length_le (by omega), show o + (i + 1) - (o + i) = 1 by omega]; rfl
  have e3 : List.drop (o + (i + 1) + cs.length) (List.take (o + i) arr.toList ++ c :: List.drop (o + i + 1) arr.toList) = List.drop (o + i + (cs.length + 1)) arr.toList := by
   rw [List.drop_append, e1, List.drop_eq_nil_of_le (by omega), show o + (i + 1) + cs.length - (o + i) = cs.length + 1 by omega]
   simp only [List.drop_succ_cons, List.nil_append, List.drop_drop]
   congr 1; omega
  rw [e2, e3]
  simp
theorem fill_step {pl : Nat → Option (Nat × Nat)} {i o s : Nat} {v : Value} {arr : Array Value} {rest : List (Nat × Value)} (h : pl i = some (o, s)) (hs : v.cells.size = s) (hl : o + s ≤ arr.size) :
  ∃ arr' : Array Value, arr'.toList = put arr.toList o v.cells.toList ∧ Instr.fill pl arr ((i, v) :: rest) = Instr.fill pl arr' rest := by
 refine ⟨v.cells.zipIdx.foldl (fun a x => a.setIfInBounds (o + x.2) x.1) arr, ?_, ?_⟩
 ·rw [← Array.foldl_toList, Array.toList_zipIdx]
  have := fold_set o v.cells.toList 0 arr (by simp; omega)
  simpa using this
 ·simp only [Instr.fill, h]
  rw [if_neg]
  simp [hs]; omega
section
variable {R : Type} {B : Base} {E : Env} {o : Oper} {av : Operand → AV} {ρ : Operand → Value} {F : Frame} {CS : List Frame} {site : Nat} {g : AV → New → Option R} {r : R}
theorem buildAll_ok {E : Env} {pl pm : Nat → Option (Nat × Nat)} (hpl : ∀ i o s, pl i = some (o, s) → pm i = some (o, s)) (hpos : ∀ i o s, pl i = some (o, s) → 1 ≤ s) {av : Operand → AV} {ρ : Operand → Value} :
  ∀ (ps : List (Nat × Operand)) {z : AV} {arr : Array Value} {g : AV → Option R} {r : R}, (∀ p ∈ ps, CV E (av p.2) (ρ p.2)) → CC E z arr.toList → buildAll pl (ps.map fun p => (p.1, av p.2)) z g = some r →
  ∃ a arr', g a = some r ∧ Instr.fill pm arr (ps.map fun p => (p.1, ρ p.2)) = some arr' ∧ CC E a arr'.toList ∧ a.isAgg = z.isAgg
 | [], z, arr, g, r, _, hz, h => ⟨z, arr, h, rfl, hz, rfl⟩
 | (i, x) :: ps, z, arr, g, r, hx, hz, h => by
  simp only [List.map_cons, buildAll] at h
  split at h
  ·rename_i o s hp
   split at h
   ·rename_i hc
    have hcv := hx (i, x) (by simp)
    obtain ⟨bs, h1, h2⟩ := cells_pos_cc (hpos _ _ _ hp) hcv hc.2.symm
    obtain ⟨z', h3, h4, h5, h6, h6'⟩ := setA_spec h1 [i] hz h
    have hl := CC.len _ h1
    have hcells := ofCells_cells h1 h2
    obtain ⟨arr', h7, h8⟩ := fill_step (v := ρ x) (rest := ps.map fun p => (p.1, ρ p.2)) (hpl _ _ _ hp) (by rw [← Array.length_toList, hcells, hl, hc.2]) (by rw [hc.1, hc.2, ← hl]; simpa using h6)
    rw [hcells, hc.1] at h7
    rw [← h7] at h4
    obtain ⟨a, arr2, h9, h10, h11, h12⟩ := buildAll_ok hpl hpos ps (fun p hp => hx p (by simp [hp])) h4 h3
    refine ⟨a, arr2, h9, ?_, h11, ?_⟩
    ·simp only [List.map_cons]; rw [h8]; exact h10
    ·rw [h12]; exact h6' (by simp)
   ·cases h
  ·cases h
theorem mapM_places {P : Program} {w : World} : ∀ (fs : List Field), (∀ f ∈ fs, ∃ i, P.info? f.type = some i) →
  ∃ l : List (Nat × Nat), (fs.mapM (m := Sem) fun f => do pure (f.offset, ← sizeOf f.type)).run P w = .ok l w ∧ l.length = fs.length ∧ ∀ (k : Nat) (f : Field) (i : TypeInfo), fs[k]? = some f → P.info? f.type = some i → l[k]? = some (f.offset, i.size)
 | [], _ => ⟨[], rfl, rfl, fun k f i h => by simp at h⟩
 | f :: fs, h => by
  obtain ⟨i, hi⟩ := h f (by simp)
  obtain ⟨l, h1, h2, h3⟩ := mapM_places (P := P) (w := w) fs (fun g hg => h g (by simp [hg]))
  refine ⟨(f.offset, i.size) :: l, ?_, by simp [h2], fun k g j hk hj => ?_⟩
  ·simp only [List.mapM_cons, Sem.run_bind, run_siz hi, Result.andThen_ok, Sem.run_pure, h1]
  ·cases k with
   | zero => simp at hk; subst hk; rw [hi] at hj; cases hj; rfl
   | succ k => simp at hk ⊢; exact h3 k g j hk hj
theorem free_build {T : TypeId} {ps : Array (Nat × Operand)} (hs : StateOK B E) (hte : ∀ T te, B.cx.te T = some te → TEok B.cx.P T te) (ho : o.op = .build T ps) (hx : ∀ p ∈ ps.toList, CV E (av p.2) (ρ p.2))
  (h : opf B.cx E.H av site o.op g = some r) : FreeGoal B E o ρ F CS site g r := by
 rw [ho] at h
 simp only [opf] at h
 split at h
 ·rename_i te hT
  have hT := hte _ _ hT
  split at h
  ·rename_i z hz
   obtain ⟨h1, h2, i, zv, h3, h4, h5⟩ := hT.zero z hz
   obtain ⟨cs, h6, h7⟩ := h5 E
   obtain ⟨d, h8, h9, h10⟩ := hT.desc
   have hzc : zv.cells.toList = cs := ofCells_cells h6 h7
   have hmap : (ps.map fun (p : Nat × Operand) => (p.1, ρ p.2)).toList = ps.toList.map fun p => (p.1, ρ p.2) := by simp
   have done : ∀ (a : AV) (arr' : Array Value), g a none = some r → CC E a arr'.toList → a.isAgg = z.isAgg → isAggD d = true →
     (Instr.build T (ps.map fun p => (p.1, ρ p.2))).run B.cx.P E.m.w = .ok (.agg arr') E.m.w → FreeGoal B E o ρ F CS site g r := by
    intro a arr' hg hcc hag hd hrun
    refine ⟨a, none, hg, .pure hs (v := .agg arr') ?_ (CV.mk hcc ?_)⟩
    ·simp [execOp, ho, hrun]
    ·rw [hag, h2, h9, hd]; simp [ofCells]
   have hb : buildable te.d = true := by
    cases hb : buildable te.d with
    | true => rfl
    | false => rw [hb] at h; cases h
   rw [if_pos hb] at h
   cases hd : te.d with
   | struct offs szs =>
    rw [hd] at h10 h
    simp only [DOK] at h10
    obtain ⟨fs, rfl, hn1, hn2, hf⟩ := h10
    have hfs : ∀ f ∈ fs.toList, ∃ i, B.cx.P.info? f.type = some i := by
     intro f hf'
     obtain ⟨k, hk, hkf⟩ := List.getElem_of_mem hf'
     have hk' : k < offs.length := by rw [← hn1]; simpa using hk
     obtain ⟨f', i', q1, q2, q3, q4, q5⟩ := hf k offs[k] (List.getElem?_eq_getElem hk')
     have : fs[k]? = some f := by rw [← Array.getElem?_toList, List.getElem?_eq_getElem hk, hkf]
     rw [this] at q1; cases q1
     exact ⟨i', q3⟩
    obtain ⟨l, hl1, hl2, hl3⟩ := mapM_places (P := B.cx.P) (w := E.m.w) fs.toList hfs
    have hpl : ∀ i o s, placeOf (.struct offs szs) i = some (o, s) → l.toArray[i]? = some (o, s) := by
     intro i o s hp
     simp only [placeOf] at hp
     split at hp
     ·rename_i o' s' ho' hs'
      cases hp
      obtain ⟨f', i', q1, q2, q3, q4, q5⟩ := hf i o ho'
      rw [hs'] at q5; cases q5
      have := hl3 i f' i' (by rw [Array.getElem?_toList]; exact q1) q3
      rw [q2] at this
      simpa using this
     ·cases hp
    have hpos : ∀ i o s, placeOf (.struct offs szs) i = some (o, s) → 1 ≤ s := by
     intro i o s hp
     simp only [placeOf] at hp
     split at hp
     ·rename_i o' s' ho' hs'
      cases hp
      obtain ⟨f', i', q1, q2, q3, q4, q5⟩ := hf i o ho'
      rw [hs'] at q5; cases q5
      omega
     ·cases hp
    obtain ⟨a, arr', p1, p2, p3, p4⟩ := buildAll_ok (arr := zv.cells) (pm := fun i => l.toArray[i]?) hpl hpos ps.toList hx (by rw [hzc]; exact h6) h
    refine done a arr' p1 p3 p4 rfl ?_
    have hmm : (fs.mapM (m := Sem) fun f => do pure (f.offset, ← sizeOf f.type)).run B.cx.P E.m.w = .ok l.toArray E.m.w := by
     rw [Array.mapM_eq_mapM_toList, Sem.run_map, hl1]
     rfl
    simp only [Instr.build, Sem.run_bind, run_zer h3 h4, Result.andThen_ok, run_und h8, hmm]
    rw [hmap, p2]
    rfl
   | array n e esz =>
    rw [hd] at h10 h hb
    simp only [DOK] at h10
    obtain ⟨rfl, ei, q1, q2⟩ := h10
    have hpos2 : ∀ i o s, placeOf (.array n e esz) i = some (o, s) → 1 ≤ s := by
     intro i o s hp
     simp only [placeOf, Option.some.injEq, Prod.mk.injEq] at hp
     have : esz ≠ 0 := by simpa [buildable] using hb
     omega
    obtain ⟨a, arr', p1, p2, p3, p4⟩ := buildAll_ok (arr := zv.cells) (pl := placeOf (.array n e esz)) (pm := fun i => some (i * esz, esz)) (fun i o s hp => by simpa [placeOf] using hp) (fun i o s hp => hpos2 i o s hp) ps.toList hx (by rw [hzc]; exact h6) h
    refine done a arr' p1 p3 p4 rfl ?_
    simp only [Instr.build, Sem.run_bind, run_zer h3 h4, Result.andThen_ok, run_und h8, run_siz q1, q2]
    rw [hmap, p2]
    rfl
   | int k => rw [hd] at hb; cases hb
   | slice e n => rw [hd] at hb; cases hb
   | other => rw [hd] at hb; cases hb
  ·cases h
 ·cases h
theorem range_flatten (z : Array Value) (s : Nat) (hz : z.size = s) : ∀ n : Nat, (List.range (n * s)).map (fun i => z[i % s]!) = (List.replicate n z.toList).flatten
 | 0 => by simp
 | n + 1 => by
  rw [Nat.add_mul, Nat.one_mul, List.range_add, List.map_append, range_flatten z s hz n, List.replicate_succ', List.flatten_concat]
  congr 1
  apply List.ext_getElem?
  intro j
  simp only [List.map_map, List.getElem?_map]
  by_cases hj : j < s
  ·rw [List.getElem?_range hj]
   have h1 : (n * s + j) % s = j := by rw [Nat.mul_comm, Nat.mul_add_mod]; exact Nat.mod_eq_of_lt hj
   have h2 : j < z.size := by omega
   simp [h1, h2]
  ·rw [List.getElem?_eq_none (by simpa using hj), List.getElem?_eq_none (by simp; omega)]
   rfl
theorem datsOf_ok {E : Env} (hl : LentOK E) {t : Ty} (hpos : 1 ≤ size t) {pm : Nat → Option (Nat × Nat)} (hpm : ∀ i, pm i = some (i * size t, size t)) {av : Operand → AV} {ρ : Operand → Value} {n : Nat} :
  ∀ (ps : List (Nat × Operand)) {xs ys : List (den t)} {arr : Array Value}, (∀ p ∈ ps, CV E (av p.2) (ρ p.2)) → (∀ p ∈ ps, p.1 < n) → xs.length = n → Rows (Enc E.m t) xs arr.toList →
  datsOf E.H t (ps.map fun p => (p.1, av p.2)) xs = some ys → ∃ arr', Instr.fill pm arr (ps.map fun p => (p.1, ρ p.2)) = some arr' ∧ Rows (Enc E.m t) ys arr'.toList ∧ ys.length = n
 | [], xs, ys, arr, _, _, hn, hr, h => by
  simp only [List.map_nil, datsOf, Option.some.injEq] at h
  subst h
  exact ⟨arr, rfl, hr, hn⟩
 | (i, x) :: ps, xs, ys, arr, hx, hi, hn, hr, h => by
  simp only [List.map_cons, datsOf] at h
  split at h
  ·rename_i y hy
   obtain ⟨bs, h1, h2⟩ := toDat_EV hl (hx (i, x) (by simp)) hy
   have hin := hi (i, x) (by simp)
   simp only at hin
   have hL : ∀ (x : den t) cs, Enc E.m t x cs → cs.length = size t := fun x cs p => Enc.len t p
   have hlen := Rows.len hL hr
   have hbs := Enc.len t h1
   have hcells : (ρ x).cells.toList = bs := by
    unfold ofCells at h2
    split at h2
    ·rw [h2]; simp [Value.cells]
    ·rw [h2] at h1
     have h3 := Enc.one t h1 (ρ x) (by simp)
     rw [h2]
     generalize hv : ρ x = v at h3
     cases v <;> simp [Value.cells, one] at h3 ⊢
   have hm : (i + 1) * size t ≤ xs.length * size t := Nat.mul_le_mul_right _ (by omega)
   rw [Nat.add_mul, Nat.one_mul] at hm
   obtain ⟨arr', h7, h8⟩ := fill_step (v := ρ x) (arr := arr) (rest := ps.map fun p => (p.1, ρ p.2)) (hpm i) (by rw [← Array.length_toList, hcells, hbs]) (by rw [← Array.length_toList, hlen]; exact hm)
   have h9 := hr.set hL (i := i) (by omega) h1
   rw [hcells] at h7
   have h10 : arr'.toList = List.take (i * size t) arr.toList ++ bs ++ List.drop (i * size t + size t) arr.toList := by rw [h7, put, hbs]
   rw [← h10] at h9
   obtain ⟨arr2, p1, p2, p3⟩ := datsOf_ok hl hpos hpm ps (fun p hp => hx p (by simp [hp])) (fun p hp => hi p (by simp [hp])) (by simp [hn]) h9 h
   exact ⟨arr2, by simp only [List.map_cons]; rw [h8]; exact p1, p2, p3⟩
  ·cases h
theorem free_buildSlice {T : TypeId} {n : Nat} {ps : Array (Nat × Operand)} (hs : StateOK B E) (hte : ∀ T te, B.cx.te T = some te → TEok B.cx.P T te) (ho : o.op = .buildSlice T n ps) (hx : ∀ p ∈ ps.toList, CV E (av p.2) (ρ p.2))
  (h : opf B.cx E.H av site o.op g = some r) : FreeGoal B E o ρ F CS site g r := by
 rw [ho] at h
 simp only [opf] at h
 split at h
 ·rename_i sz ag el esz ty eqq zz hT
  obtain ⟨d, h1, _, h2⟩ := (hte _ _ hT).desc
  simp only [DOK] at h2
  obtain ⟨rfl, ei, h3, h4, h5⟩ := h2
  split at h
  ·rename_i sz' ag' d' t eqq' z hT'
   have hT' := hte _ _ hT'
   obtain ⟨hsz, hag, _⟩ := hT'.ty t rfl
   split at h
   ·rename_i hn0
    subst hn0
    split at h
    ·rename_i hps
     have hps' : ps = #[] := Array.eq_empty_of_size_eq_zero hps
     refine ⟨_, _, h, .inl ⟨rfl, .slice (some ⟨E.m.w.heap.size, 0, none⟩) 0 0, _, E.m.M, .inl ?_, push_world hs #[] el, CV.of1 ?_ rfl⟩⟩
     ·have hr0 : Array.range 0 = #[] := rfl
      simp [execOp, ho, Instr.buildSlice, run_und h1, run_siz h3, hps', Instr.fill, newRow, hr0]
     ·unfold CC; exact ⟨_, rfl⟩
    ·cases h
   ·rename_i hn0
    split at h
    ·rename_i hcond
     split at h
     ·rename_i x0 hx0
      split at h
      ·rename_i xs hxs
       obtain ⟨hz1, hz2, i, zv, hz3, hz4, hz5⟩ := hT'.zero z rfl
       obtain ⟨cs, h6, h7⟩ := hz5 ⟨E.m, E.ρ, []⟩
       have hzc : zv.cells.toList = cs := ofCells_cells h6 h7
       have he0 : Enc E.m t x0 zv.cells.toList := by rw [hzc]; exact toDat_spec (E := ⟨E.m, E.ρ, []⟩) (fun id t xs h => by simp [hlook] at h) t z h6 hx0
       have hzs : zv.cells.size = size t := by have := Enc.len t he0; simpa using this
       have hpos : 1 ≤ size t := by rw [hsz]; exact hT'.pos
       rw [h3] at hz3
       cases hz3
       obtain ⟨i', q1, q2⟩ := hT'.info
       rw [h3] at q1
       cases q1
       have hes : ei.size = size t := by rw [hsz]; exact q2
       have harr : ((Array.range (n * ei.size)).map (fun j => zv.cells[j % zv.cells.size]!)).toList = (List.replicate n zv.cells.toList).flatten := by
        rw [Array.toList_map, Array.toList_range, hes, ← range_flatten zv.cells (size t) hzs n, hzs]
       obtain ⟨arr', p1, p2, p3⟩ := datsOf_ok hs.lent hpos (pm := fun j => some (j * ei.size, ei.size)) (fun j => by rw [hes]) (n := n) ps.toList hx (fun p hp => by
        have := hcond.1
        simp only [List.all_eq_true, decide_eq_true_eq] at this
        exact this p hp) (by simp) (arr := (Array.range (n * ei.size)).map (fun j => zv.cells[j % zv.cells.size]!)) (by rw [harr]; exact Rows.replicate he0 n) hxs
       have hmap : (ps.map fun (p : Nat × Operand) => (p.1, ρ p.2)).toList = ps.toList.map fun p => (p.1, ρ p.2) := by simp
       have hrun : Does B.cx.P o ρ E.m.w F CS (.slice (some ⟨E.m.w.heap.size, 0, none⟩) n n) { E.m.w with heap := E.m.w.heap.push (.cells arr' el (0, 0)) } := by
        refine .inl ?_
        have hne : ¬ n * ei.size = 0 := by rw [hes]; exact Nat.ne_of_gt (Nat.mul_pos (by omega) (by omega))
        have hbig : ¬ n * ei.size > 2 ^ 24 := by
         have := hcond.2
         simp only at q2
         rw [← q2] at this
         simpa using this
        simp only [execOp, ho, Instr.buildSlice, Sem.run_bind, run_und h1, Result.andThen_ok, run_siz h3, Sem.run_ite, if_neg hbig, if_neg hne, run_zer h3 hz4, Sem.run_pure, hmap, p1, newRow, run_newObj]
       have henc : Enc (E.world { E.m.w with heap := E.m.w.heap.push (.cells arr' el (0, 0)) } E.m.M).m (.slice t) xs [.slice (some ⟨E.m.w.heap.size, 0, none⟩) n n] := by
        unfold Enc
        refine ⟨_, n, by rw [p3], by rw [p3]; exact Nat.le_refl n, fun hne => ⟨E.m.w.heap.size, 0, arr'.toList, rfl, ?_, fun j v hj => ⟨?_, ?_⟩⟩⟩
        ·exact p2.mono fun x cs p => Enc.mono (world_le hs (push_world hs arr' el)) t p
        ·simp only [Env.world, Mem.cell, World.cell?, Array.getElem?_push, if_true, Nat.zero_add]
         simpa using hj
        ·rw [Nat.zero_add]; exact fresh_not_mut hs j
       cases hfl : B.cx.full (site % 10000000) with
       | true =>
        rw [hfl, cond_true] at h
        exact ⟨_, _, h, .inl ⟨rfl, .slice (some ⟨E.m.w.heap.size, 0, none⟩) n n, _, E.m.M, hrun, push_world hs arr' el, CV.of1 (by unfold CC; exact ⟨_, by rw [p3], henc⟩) rfl⟩⟩
       | false =>
        rw [hfl, cond_false] at h
        exact ⟨_, _, h, .inl ⟨rfl, .slice (some ⟨E.m.w.heap.size, 0, none⟩) n n, _, E.m.M, hrun, push_world hs arr' el, CV.of1 (by unfold CC; exact henc) rfl⟩⟩
      ·cases h
     ·cases h
    ·cases h
  ·cases h
 ·cases h
def EVL (m : Mem) : (ts : List Ty) → denL ts → List Value → Prop
 | [], _, vs => vs = []
 | t :: ts, x, vs => ∃ v us, vs = v :: us ∧ EV m t x.1 v ∧ EVL m ts x.2 us
def GlobOK (cx : Ctx) (m : Mem) : Prop := ∀ g, CV ⟨m, fun _ => none, []⟩ (cx.glob g) (.pointer (some ⟨g, 0, none⟩))
def MemoFine (cx : Ctx) (m : Mem) : Prop := ∀ km i t y, m.M km = some (i, ⟨t, y⟩) → ∃ es clock mm x, m.w.heap[km]? = some (.map es clock) ∧
 cx.memo i = some mm ∧ castT t (.struct mm.ts) y = some x ∧
 ∀ e ∈ es, ∃ kx vx, EV m mm.key kx e.key ∧ EV m mm.val vx e.val ∧ mm.f x kx = some vx
def ResOK (m : Mem) (ts : List Ty) (y : denL ts) (v : Value) : Prop := ∃ vs, EVL m ts y vs ∧ (if h : vs.length = 1 then v = vs[0] else v = .tuple vs.toArray)
def ConOK (cx : Ctx) (f : FuncId) (c : Con) : Prop := ∀ (m : Mem) (x : denL c.args) (y : denL c.res) (vs : List Value), c.f x = some y → EVL m c.args x vs →
 (∀ k j, m.Mut k j → k < m.w.heap.size) → (∀ k z, m.M k = some z → k < m.w.heap.size) → GlobOK cx m → MemoFine cx m →
 Calls cx.P f vs.toArray m.w fun e w' => ∃ v M', e = .returned v ∧ ResOK ⟨w', m.Mut, M'⟩ c.res y v ∧ Ext m.w w' m.M ∧ (∀ k z, m.M k = some z → M' k = some z) ∧ (∀ k z, M' k = some z → m.M k = none → m.w.heap.size ≤ k) ∧ MemoFine cx ⟨w', m.Mut, M'⟩
def EVR (m : Mem) : List Bool → (ts : List Ty) → denL ts → List Value → Prop
 | [], ts, x, vs => EVL m ts x vs
 | _ :: _, [], _, vs => vs = []
 | b :: rs, t :: ts, x, vs => ∃ v us, vs = v :: us ∧ ((b = true ∧ ∃ k off es, v = .pointer (some ⟨k, off, none⟩) ∧ Enc m t x.1 es ∧ Lies m k off es) ∨ (b = false ∧ EV m t x.1 v)) ∧ EVR m rs ts x.2 us
def RConOK (cx : Ctx) (f : FuncId) (c : RCon) : Prop := ∀ (m : Mem) (x : denL c.args) (y : denL c.res) (vs : List Value), c.f x = some y → EVR m c.rd c.args x vs →
 (∀ k j, m.Mut k j → k < m.w.heap.size) → (∀ k z, m.M k = some z → k < m.w.heap.size) → GlobOK cx m → MemoFine cx m →
 Calls cx.P f vs.toArray m.w fun e w' => ∃ v M', e = .returned v ∧ (∀ m2, ResOK m2 c.res y v) ∧ Ext m.w w' m.M ∧ (∀ k z, m.M k = some z → M' k = some z) ∧ (∀ k z, M' k = some z → m.M k = none → m.w.heap.size ≤ k) ∧ ∀ Mut2, MemoFine cx ⟨w', Mut2, M'⟩
def RowQ (m0 : Nat) (w' : World) : (t : Ty) → den t → Value → Option Nat → Prop
 | .slice t, xs, v, q => (q = none ∧ xs = [] ∧ ∃ a, v = .slice a 0 0) ∨
   ∃ k cap arr e es, q = some k ∧ v = .slice (some ⟨k, 0, none⟩) (List.length xs) cap ∧ List.length xs ≤ cap ∧ m0 ≤ k ∧ w'.heap[k]? = some (.cells arr e (0, 0)) ∧ arr.size = cap * size t ∧ (∀ m2, Rows (Enc m2 t) xs es) ∧ es <+: arr.toList
 | _, _, _, _ => False
def FreshL (m0 : Nat) (w' : World) : (ts : List Ty) → denL ts → List Value → Prop
 | .slice t :: .slice u :: ts, y, vs => ∃ v1 v2 us q1 q2, vs = v1 :: v2 :: us ∧ RowQ m0 w' (.slice t) y.1 v1 q1 ∧ RowQ m0 w' (.slice u) y.2.1 v2 q2 ∧ (∀ k, q1 = some k → q2 ≠ some k) ∧ ∀ m2, EVL m2 ts y.2.2 us
 | t :: ts, y, vs => ∃ v us q, vs = v :: us ∧ RowQ m0 w' t y.1 v q ∧ ∀ m2, EVL m2 ts y.2 us
 | [], _, _ => False
def FConOK (cx : Ctx) (f : FuncId) (c : Con) : Prop := ∀ (m : Mem) (x : denL c.args) (y : denL c.res) (vs : List Value), c.f x = some y → EVL m c.args x vs →
 (∀ k j, m.Mut k j → k < m.w.heap.size) → (∀ k z, m.M k = some z → k < m.w.heap.size) → GlobOK cx m → MemoFine cx m →
 Calls cx.P f vs.toArray m.w fun e w' => ∃ v M' us, e = .returned v ∧ FreshL m.w.heap.size w' c.res y us ∧ (if h : us.length = 1 then v = us[0] else v = .tuple us.toArray) ∧ Ext m.w w' m.M ∧ (∀ k z, m.M k = some z → M' k = some z) ∧ (∀ k z, M' k = some z → m.M k = none → m.w.heap.size ≤ k) ∧ ∀ Mut2, MemoFine cx ⟨w', Mut2, M'⟩
def CstOK (cx : Ctx) (f : FuncId) (a : AV) : Prop := ∀ (m : Mem),
 (∀ k j, m.Mut k j → k < m.w.heap.size) → (∀ k z, m.M k = some z → k < m.w.heap.size) → GlobOK cx m → MemoFine cx m →
 Calls cx.P f #[] m.w fun e w' => ∃ v M', e = .returned v ∧ (∀ E, CV E a v) ∧ Ext m.w w' m.M ∧ (∀ k z, m.M k = some z → M' k = some z) ∧ (∀ k z, M' k = some z → m.M k = none → m.w.heap.size ≤ k) ∧ MemoFine cx ⟨w', m.Mut, M'⟩
theorem toDatL_EVL {E : Env} (hl : LentOK E) : ∀ {ts : List Ty} {as : List AV} {x : denL ts} {vs : List Value}, CVL E as vs → toDatL E.H ts as = some x → EVL E.m ts x vs
 | [], [], x, vs, hc, h => by unfold CVL at hc; exact hc
 | t :: ts, a :: as, x, vs, hc, h => by
  simp only [toDatL] at h
  split at h
  ·rename_i x1 x2 h1 h2
   cases h
   unfold CVL at hc
   obtain ⟨v, us, rfl, h3, h4⟩ := hc
   refine ⟨v, us, rfl, ?_, toDatL_EVL hl h4 h2⟩
   rcases h3 with ⟨cs, p, q⟩ | h3
   ·exact toDat_EV hl (CV.mk p q) h1
   ·cases a <;> simp [AV.isTop] at h3
    cases t <;> simp [toDat] at h1
  ·cases h
 | [], _ :: _, _, _, _, h | _ :: _, [], _, _, _, h => by simp [toDatL] at h
theorem CVL.append {E : Env} : ∀ {as bs : List AV} {vs ws : List Value}, CVL E as vs → CVL E bs ws → CVL E (as ++ bs) (vs ++ ws)
 | [], _, vs, _, h, h' => by unfold CVL at h; subst h; exact h'
 | a :: as, _, vs, _, h, h' => by
  unfold CVL at h
  obtain ⟨v, us, rfl, h1, h2⟩ := h
  simp only [List.cons_append]
  unfold CVL
  exact ⟨v, _, rfl, h1, CVL.append h2 h'⟩
theorem EVL_CVL {E : Env} : ∀ {ts : List Ty} {y : denL ts} {vs : List Value}, EVL E.m ts y vs → CVL E (datAVs ts y) vs
 | [], _, _, h => by unfold datAVs fieldsT CVL; exact h
 | t :: ts, y, vs, h => by
  obtain ⟨v, us, rfl, ⟨cs, h1, h2⟩, h3⟩ := h
  show CVL E (.dat t y.1 :: datAVs ts y.2) _
  unfold CVL
  exact ⟨v, us, rfl, .inl ⟨cs, by unfold CC; exact h1, h2⟩, EVL_CVL h3⟩
theorem EVL.len {m : Mem} : ∀ {ts : List Ty} {y : denL ts} {vs : List Value}, EVL m ts y vs → vs.length = ts.length
 | [], _, _, h => by simp only [EVL] at h; simp [h]
 | t :: ts, y, vs, h => by obtain ⟨v, us, rfl, _, h3⟩ := h; simp [EVL.len h3]
theorem ResOK_CV {E : Env} {ts : List Ty} {y : denL ts} {v : Value} (h : ResOK E.m ts y v) : CV E (tupA (datAVs ts y)) v := by
 obtain ⟨vs, h1, h2⟩ := h
 have hl := h1.len
 match ts, y, h1, hl with
 | [], y, h1, hl =>
  rw [dif_neg (by rw [hl]; simp)] at h2
  exact ⟨vs, h2, by unfold datAVs fieldsT CVL; simpa [EVL] using h1⟩
 | [t], y, h1, hl =>
  rw [dif_pos (show vs.length = 1 from hl)] at h2
  obtain ⟨u, us, rfl, ⟨cs, h3, h4⟩, h5⟩ := h1
  simp at h2
  subst h2
  show CV E (.dat t y.1) v
  exact CV.mk (by unfold CC; exact h3) h4
 | t :: t' :: ts, y, h1, hl =>
  rw [dif_neg (by rw [hl]; simp)] at h2
  have := EVL_CVL (E := E) h1
  exact ⟨vs, h2, this⟩
theorem memo_fine (hs : StateOK B E) : MemoFine B.cx E.m := hs.memo
theorem mut_lt (hs : StateOK B E) (k j : Nat) (h : E.m.Mut k j) : k < E.m.w.heap.size := by
 rcases (hs.wri k j).1 h with h | ⟨i, b, h1, h2, _⟩
 ·have := hs.fo.1 _ _ h; have := hs.since.grow; omega
 ·exact ((hs.blk _ _ h1).lt h2).2
theorem memo_lt (hs : StateOK B E) (k : Nat) (z : Nat × Sigma den) (h : E.m.M k = some z) : k < E.m.w.heap.size := by
 obtain ⟨i, t, y⟩ := z
 obtain ⟨es, clock, _, _, h1, _⟩ := hs.memo k i t y h
 exact lt_of_some h1
theorem glob_ok (hs : StateOK B E) : GlobOK B.cx E.m := fun g => by
 refine CV.to (E := E) (E' := ⟨E.m, fun _ => none, []⟩) (Mem.le.refl E.m) (fun j hj => ?_) (hs.glob g)
 rw [hs.globm] at hj; cases hj
theorem own_le (hs : StateOK B E) : E.m.le { E.m with Mut := B.Fo } :=
 ⟨fun _ _ _ hc hm => ⟨hc, fun hf => hm ((hs.wri _ _).2 (.inl hf))⟩, fun _ _ h => h, fun _ _ h => h⟩
theorem toDat_EV2 {m' : Mem} (hl : LentOK E) (hle : E.m.le m') {t : Ty} {a : AV} {x : den t} {v : Value} (h3 : (∃ cs, CC E a cs ∧ ofCells a.isAgg cs v) ∨ a.isTop = true) (h : toDat E.H t a = some x) : EV m' t x v := by
 rcases h3 with ⟨cs, p, q⟩ | h3
 ·exact (toDat_EV hl (CV.mk p q) h).mono hle
 ·cases a <;> simp [AV.isTop] at h3
  cases t <;> simp [toDat] at h
theorem arrDat_src (hs : StateOK B E) {u : Ty} {a : AV} {ys : List (den u)} {v : Value} (hc : (∃ cs, CC E a cs ∧ ofCells a.isAgg cs v) ∨ a.isTop = true) (h : arrDat E.H (.slice u) a = some ys) :
  ∃ p cap es, v = .slice p (List.length ys) cap ∧ List.length ys ≤ cap ∧ Rows (Enc E.m u) ys es ∧ (ys ≠ [] → ∃ k off, p = some ⟨k, off, none⟩ ∧ ∀ j w, es[j]? = some w → E.m.cell k (off + j) = some w ∧ ¬ B.Fo k (off + j)) := by
 unfold arrDat at h
 split at h
 ·rename_i id lo len
  split at h
  ·rename_i n u' xs f hl
   have e := (castT_spec h).1
   have e : u' = u := Ty.slice.inj e
   subst e
   have h : List.take len (List.drop lo xs) = ys := by
    obtain ⟨_, h⟩ := castT_spec h
    exact h
   subst h
   rcases hc with ⟨cs, p, q⟩ | hc
   ·unfold CC at p
    obtain ⟨v1, rfl, _, _, hb⟩ := p
    obtain ⟨h1, b, cap, rfl, h2, h3⟩ := hb _ _ (n + 1) (skT u') hl (by simp only [skA, skT]) (Nat.succ_pos n)
    have hv : v = .slice b len cap := by simpa [ofCells, AV.isAgg] using q.symm
    obtain ⟨k, arr, e, p1, p2, p3, p4⟩ := hs.blk _ _ hl
    unfold CC at p4
    unfold Enc at p4
    have hlen : (List.take len (List.drop lo xs)).length = len := by
     have := p4.1
     rw [List.length_take, List.length_drop]; omega
    have hL : ∀ (x : den u') cs, Enc E.m u' x cs → cs.length = size u' := fun x cs p => Enc.len u' p
    refine ⟨b, cap, _, by rw [hlen]; exact hv, by rw [hlen]; exact h2, (p4.2.drop hL lo).take hL len, fun hne => ?_⟩
    have h0 : 0 < len := by
     rcases Nat.eq_zero_or_pos len with h | h
     ·subst h; exact absurd rfl hne
     ·exact h
    obtain ⟨k', hk, rfl⟩ := h3 h0
    rw [p1] at hk
    cases hk
    have hsz : sizeK (skT u') = size u' := (size_sk u').symm
    refine ⟨k, lo * sizeK (skT u'), rfl, fun j w hj => ?_⟩
    rw [hsz]
    rw [List.getElem?_take] at hj
    split at hj
    ·rw [List.getElem?_drop] at hj
     refine ⟨?_, fun hf => hs.fo.2 _ _ _ _ hl p1 hf⟩
     simp only [Mem.cell, World.cell?, p3]
     simpa using hj
    ·cases hj
   ·cases hc
  ·cases h
 ·cases h
theorem toDatU_EV (hs : StateOK B E) {t : Ty} {a : AV} {x : den t} {v : Value} (h3 : (∃ cs, CC E a cs ∧ ofCells a.isAgg cs v) ∨ a.isTop = true) (h : toDatU E.H t a = some x) : EV { E.m with Mut := B.Fo } t x v := by
 unfold toDatU at h
 split at h
 ·rename_i y hy
  cases h
  have ht : ∃ u, t = .slice u := by
   unfold arrDat at hy
   split at hy
   ·split at hy
    ·obtain ⟨e, _⟩ := castT_spec hy
     exact ⟨_, e.symm⟩
    ·cases hy
   ·cases hy
  obtain ⟨u, rfl⟩ := ht
  obtain ⟨p, cap, es, hv, hcap, hr, hk⟩ := arrDat_src hs h3 hy
  refine ⟨[v], ?_, by simp [ofCells, Ty.isAgg]⟩
  unfold Enc
  refine ⟨p, cap, by rw [hv], hcap, fun hne => ?_⟩
  obtain ⟨k, off, rfl, hc⟩ := hk hne
  exact ⟨k, off, es, rfl, hr.mono fun x cs p => Enc.mono (own_le hs) u p, fun j w hj => hc j w hj⟩
 ·exact toDat_EV2 hs.lent (own_le hs) h3 h
theorem toDatR_EVR (hs : StateOK B E) : ∀ {rs : List Bool} {ts : List Ty} {as : List AV} {x : denL ts} {vs : List Value}, CVL E as vs → toDatR E.H rs ts as = some x → EVR { E.m with Mut := B.Fo } rs ts x vs
 | [], ts, as, x, vs, hc, h => by
  have h1 : EVL E.m ts x vs := toDatL_EVL hs.lent hc (by simpa only [toDatR] using h)
  have mono : ∀ (ts : List Ty) (y : denL ts) (vs : List Value), EVL E.m ts y vs → EVL { E.m with Mut := B.Fo } ts y vs := by
   intro ts
   induction ts with
   | nil => intro y vs h; exact h
   | cons t ts ih =>
    intro y vs h1
    obtain ⟨v, us, e, q1, q2⟩ := h1
    exact ⟨v, us, e, q1.mono (own_le hs), ih _ _ q2⟩
  exact mono ts x vs h1
 | _ :: _, [], [], x, vs, hc, _ => by unfold CVL at hc; exact hc
 | b :: rs, t :: ts, a :: as, x, vs, hc, h => by
  simp only [toDatR] at h
  split at h
  ·rename_i x1 x2 h1 h2
   cases h
   unfold CVL at hc
   obtain ⟨v, us, rfl, h3, h4⟩ := hc
   refine ⟨v, us, rfl, ?_, toDatR_EVR hs h4 h2⟩
   cases b with
   | false => exact .inr ⟨rfl, toDatU_EV hs h3 h1⟩
   | true =>
    simp only [cond_true] at h1
    refine .inl ⟨rfl, ?_⟩
    unfold ptDat at h1
    split at h1
    ·rename_i id
     rcases h3 with ⟨cs, p, q⟩ | h3
     ·split at h1
      ·rename_i u' y' f hl
       obtain ⟨rfl, rfl⟩ := castT_spec h1
       unfold CC at p
       obtain ⟨u, rfl, _, hv⟩ := p
       obtain ⟨k, hk, rfl⟩ := hv _ hl
       obtain ⟨k', arr, e, p1, p2, p3, p4⟩ := hs.blk _ _ hl
       unfold CC at p4
       rw [hk] at p1; cases p1
       have hq : v = .pointer (some ⟨k, 0, none⟩) := by simpa [ofCells, AV.isAgg, offK] using q.symm
       refine ⟨k, 0, arr.toList, hq, Enc.mono (own_le hs) _ p4, fun j v' hj => ⟨?_, fun hf => ?_⟩⟩
       ·rw [Nat.zero_add]
        simp only [Mem.cell, World.cell?, p3]
        simpa using hj
       ·exact hs.fo.2 _ _ _ _ hl hk hf
      ·cases h1
     ·simp [AV.isTop] at h3
    ·rename_i u y
     rcases h3 with ⟨cs, p, q⟩ | h3
     ·unfold CC at p
      obtain ⟨k, off, es, rfl, p1, p2⟩ := p
      obtain ⟨rfl, rfl⟩ := castT_spec h1
      have hq : v = .pointer (some ⟨k, off, none⟩) := by simpa [ofCells, AV.isAgg] using q.symm
      exact ⟨k, off, es, hq, Enc.mono (own_le hs) _ p1, p2.mono (own_le hs)⟩
     ·simp [AV.isTop] at h3
    ·cases h1
  ·cases h
 | _ :: _, [], _ :: _, _, _, _, h | _ :: _, _ :: _, [], _, _, _, h => by simp [toDatR] at h
theorem free_call {f : Operand} {args : Array Operand} {argTypes : Array TypeId} (hs : StateOK B E) (hcon : ∀ f c, B.cx.con f = some c → ConOK B.cx f c ∧ ∃ fn, B.cx.P.funcs[f]? = some fn ∧ fn.name ≠ "runtime.NumGoroutine" ∧ fn.body.isNone = false)
  (hrcon : ∀ f c, B.cx.rcon f = some c → RConOK B.cx f c ∧ ∃ fn, B.cx.P.funcs[f]? = some fn ∧ fn.name ≠ "runtime.NumGoroutine" ∧ fn.body.isNone = false)
  (hcst : ∀ f a, B.cx.cst f = some a → CstOK B.cx f a ∧ ∃ fn, B.cx.P.funcs[f]? = some fn ∧ fn.name ≠ "runtime.NumGoroutine" ∧ fn.body.isNone = false)
  (ho : o.op = .call { callee := .value f, args, argTypes }) (hf : CV E (av f) (ρ f)) (hx : ∀ x ∈ args.toList, CV E (av x) (ρ x))
  (h : opf B.cx E.H av site o.op g = some r) : FreeGoal B E o ρ F CS site g r := by
 rw [ho] at h
 simp only [opf] at h
 split at h
 ·rename_i k fs cs hav
  split at h
  ·rename_i c hc
   split at h
   ·rename_i x hxd
    cases hy : c.f x with
    | none => rw [hy] at h; cases h
    | some y =>
     rw [hy] at h
     simp only [Option.bind_some] at h
     obtain ⟨hcon, fn, hfn, hname, hbody⟩ := hcon k c hc
     rw [hav] at hf
     have hf1 := hf.one rfl (by simp [skA])
     unfold CC at hf1
     obtain ⟨vs, ws, e, hfs, hcs⟩ := hf1
     have hv := (List.cons.inj e).1
     have hargs : CVL E (fs ++ args.toList.map (fun x => argA (av x)) ++ cs) (vs ++ args.toList.map ρ ++ ws) := (hfs.append (CVL.map _ hx)).append hcs
     have hcalls := hcon E.m x y _ hy (toDatL_EVL hs.lent hargs hxd) (mut_lt hs) (memo_lt hs) (glob_ok hs) (memo_fine hs)
     obtain ⟨e', w', fr, hR, hcomes, _, hleave⟩ := hcalls (F :: CS)
     obtain ⟨v, M', rfl, q1, q2, q3, q4, q5⟩ := hR
     have hW : WorldOK B E w' M' := ⟨q2.size, q2.os, q2.tape, q2.output, q2.same, q3, fun k z hz h0 => by
      cases hm : E.m.M k with
      | none => have := q4 k z hz hm; have := hs.ext.size; omega
      | some z' => exact hs.late k z' hm h0, q5⟩
     refine ⟨_, _, h, .inl ⟨rfl, v, w', M', .inr (.inr ⟨k, _, ?_, fr, hcomes, hleave⟩), hW, ?_⟩⟩
     ·have hargv : vs.toArray ++ args.map ρ ++ ws.toArray = (vs ++ args.toList.map ρ ++ ws).toArray := by
       have : args.map ρ = (args.toList.map ρ).toArray := by rw [← Array.toList_map, Array.toArray_toList]
       rw [this]; simp
      simp only [execOp, ho, resolve, hv, Deferred.ofValue, Sem.run_bind, Sem.run_pure, Result.andThen_ok, invoke, callFunc, run_program, hfn, hbody, beq_iff_eq, hname, if_false, Bool.false_eq_true, hargv]
     ·exact ResOK_CV (E := E.world w' M') q1
   ·cases h
  ·split at h
   ·rename_i c hc
    split at h
    ·rename_i x hxd
     cases hy : c.f x with
     | none => rw [hy] at h; cases h
     | some y =>
      rw [hy] at h
      simp only [Option.bind_some] at h
      obtain ⟨hcon, fn, hfn, hname, hbody⟩ := hrcon k c hc
      rw [hav] at hf
      have hf1 := hf.one rfl (by simp [skA])
      unfold CC at hf1
      obtain ⟨vs, ws, e, hfs, hcs⟩ := hf1
      have hv := (List.cons.inj e).1
      have hargs : CVL E (fs ++ args.toList.map (fun x => argA (av x)) ++ cs) (vs ++ args.toList.map ρ ++ ws) := (hfs.append (CVL.map _ hx)).append hcs
      have hle := own_le hs
      have hcalls := hcon { E.m with Mut := B.Fo } x y _ hy (toDatR_EVR hs hargs hxd) (fun k j hf => Nat.lt_of_lt_of_le (hs.fo.1 _ _ hf) hs.since.grow) (memo_lt hs)
       (fun g => CV.to (E := ⟨E.m, fun _ => none, []⟩) (E' := ⟨{ E.m with Mut := B.Fo }, fun _ => none, []⟩) hle (fun j hj => by rw [hs.globm] at hj; cases hj) (glob_ok hs g))
       (fun km i t y hk => let ⟨es, clock, mm, x, h1, h2, h3, h4⟩ := memo_fine hs km i t y hk; ⟨es, clock, mm, x, h1, h2, h3, fun e he => let ⟨kx, vx, p, q, r⟩ := h4 e he; ⟨kx, vx, p.mono hle, q.mono hle, r⟩⟩)
      obtain ⟨e', w', fr, hR, hcomes, _, hleave⟩ := hcalls (F :: CS)
      obtain ⟨v, M', rfl, q1, q2, q3, q4, q5⟩ := hR
      have hW : WorldOK B E w' M' := ⟨q2.size, q2.os, q2.tape, q2.output, q2.same, q3, fun k z hz h0 => by
       cases hm : E.m.M k with
       | none => have := q4 k z hz hm; have := hs.ext.size; exact Nat.le_trans this ‹_›
       | some z' => exact hs.late k z' hm h0, q5 _⟩
      refine ⟨_, _, h, .inl ⟨rfl, v, w', M', .inr (.inr ⟨k, _, ?_, fr, hcomes, hleave⟩), hW, ?_⟩⟩
      ·have hargv : vs.toArray ++ args.map ρ ++ ws.toArray = (vs ++ args.toList.map ρ ++ ws).toArray := by
        have : args.map ρ = (args.toList.map ρ).toArray := by rw [← Array.toList_map, Array.toArray_toList]
        rw [this]; simp
       simp only [execOp, ho, resolve, hv, Deferred.ofValue, Sem.run_bind, Sem.run_pure, Result.andThen_ok, invoke, callFunc, run_program, hfn, hbody, beq_iff_eq, hname, if_false, Bool.false_eq_true, hargv]
      ·exact ResOK_CV (E := E.world w' M') (q1 _)
    ·cases h
   split at h
   ·rename_i a hc he
    obtain ⟨hcon, fn, hfn, hname, hbody⟩ := hcst k a hc
    rw [hav] at hf
    have hf1 := hf.one rfl (by simp [skA])
    unfold CC at hf1
    obtain ⟨vs, ws, e, hfs, hcs⟩ := hf1
    have hv := (List.cons.inj e).1
    unfold CVL at hfs hcs
    subst hfs
    subst hcs
    have hcalls := hcon E.m (mut_lt hs) (memo_lt hs) (glob_ok hs) (memo_fine hs)
    obtain ⟨e', w', fr, hR, hcomes, _, hleave⟩ := hcalls (F :: CS)
    obtain ⟨v, M', rfl, q1, q2, q3, q4, q5⟩ := hR
    have hW : WorldOK B E w' M' := ⟨q2.size, q2.os, q2.tape, q2.output, q2.same, q3, fun k z hz h0 => by
     cases hm : E.m.M k with
     | none => have := q4 k z hz hm; have := hs.ext.size; omega
     | some z' => exact hs.late k z' hm h0, q5⟩
    refine ⟨_, _, h, .inl ⟨rfl, v, w', M', .inr (.inr ⟨k, _, ?_, fr, hcomes, hleave⟩), hW, q1 _⟩⟩
    have hargv : #[] ++ args.map ρ ++ #[] = (#[] : Array Value) := by
     have : args.map ρ = (args.toList.map ρ).toArray := by rw [← Array.toList_map, Array.toArray_toList]
     rw [this, he]; simp
    simp only [execOp, ho, resolve, hv, Deferred.ofValue, Sem.run_bind, Sem.run_pure, Result.andThen_ok, invoke, callFunc, run_program, hfn, hbody, beq_iff_eq, hname, if_false, Bool.false_eq_true, hargv]
   ·cases h
 ·cases h
structure CtxOK (cx : Ctx) : Prop where
 te : ∀ T te, cx.te T = some te → TEok cx.P T te
 con : ∀ f c, cx.con f = some c → ConOK cx f c ∧ ∃ fn, cx.P.funcs[f]? = some fn ∧ fn.name ≠ "runtime.NumGoroutine" ∧ fn.body.isNone = false
 rcon : ∀ f c, cx.rcon f = some c → RConOK cx f c ∧ ∃ fn, cx.P.funcs[f]? = some fn ∧ fn.name ≠ "runtime.NumGoroutine" ∧ fn.body.isNone = false := by intro f c h; cases h
 cst : ∀ f a, cx.cst f = some a → CstOK cx f a ∧ ∃ fn, cx.P.funcs[f]? = some fn ∧ fn.name ≠ "runtime.NumGoroutine" ∧ fn.body.isNone = false
theorem opf_ok (hs : StateOK B E) (hcx : CtxOK B.cx) (hav : ∀ x ∈ o.op.operands, CV E (av x) (ρ x)) (h : opf B.cx E.H av site o.op g = some r) : FreeGoal B E o ρ F CS site g r := by
 cases ho : o.op with
 | move x => rw [ho] at h hav; exact free_move hs (.inl ho) (hav x (by simp [Op.operands])) (by simpa only [opf] using h)
 | assign x => rw [ho] at h hav; exact free_move hs (.inr ho) (hav x (by simp [Op.operands])) (by simpa only [opf] using h)
 | pick c a b => rw [ho] at hav; exact free_pick hs ho (hav c (by simp [Op.operands])) (hav a (by simp [Op.operands])) (hav b (by simp [Op.operands])) h
 | alloc T => exact free_alloc hs hcx.te ho h
 | box T x => rw [ho] at hav; exact free_box hs hcx.te ho (hav x (by simp [Op.operands])) h
 | build T ps => rw [ho] at hav; exact free_build hs hcx.te ho (fun p hp => hav p.2 (by simp [Op.operands]; exact ⟨p.1, by simpa using hp⟩)) h
 | buildSlice T n ps => rw [ho] at hav; exact free_buildSlice hs hcx.te ho (fun p hp => hav p.2 (by simp [Op.operands]; exact ⟨p.1, by simpa using hp⟩)) h
 | load T x => rw [ho] at hav; exact free_load hs hcx.te ho (hav x (by simp [Op.operands])) h
 | nilCheck x => rw [ho] at hav; exact free_nilCheck hs ho (hav x (by simp [Op.operands])) h
 | binOp op T x y T' => rw [ho] at hav; exact free_binOp hs hcx.te ho (hav x (by simp [Op.operands])) (hav y (by simp [Op.operands])) h
 | unOp op T x => rw [ho] at hav; exact free_unOp hs ho (hav x (by simp [Op.operands])) h
 | convert S T x => rw [ho] at hav; exact free_convert hs hcx.te ho (hav x (by simp [Op.operands])) h
 | makeFunc fn fs cs =>
  cases fn with
  | func f => rw [ho] at hav; exact free_makeFunc hs ho (fun x hx => hav x (by simp [Op.operands]; exact .inl (by simpa using hx))) (fun x hx => hav x (by simp [Op.operands]; exact .inr (by simpa using hx))) h
  | _ => rw [ho] at h; simp [opf] at h
 | slice T x lo hi mx =>
  cases mx with
  | none => rw [ho] at hav; exact free_slice hs hcx.te ho (hav x (by simp [Op.operands])) (fun y hy => hav y (by simp [Op.operands, hy])) (fun y hy => hav y (by simp [Op.operands, hy])) h
  | some m => rw [ho] at h; simp [opf] at h
 | fieldAddr T x k => rw [ho] at hav; exact free_fieldAddr hs hcx.te ho (hav x (by simp [Op.operands])) h
 | indexAddr T x i => rw [ho] at hav; exact free_indexAddr hs hcx.te ho (hav x (by simp [Op.operands])) (hav i (by simp [Op.operands])) h
 | field T x k => rw [ho] at hav; exact free_field hs hcx.te ho (hav x (by simp [Op.operands])) h
 | index T x i => rw [ho] at hav; exact free_index hs hcx.te ho (hav x (by simp [Op.operands])) (hav i (by simp [Op.operands])) h
 | extract x k => rw [ho] at hav; exact free_extract hs ho (hav x (by simp [Op.operands])) h
 | call c =>
  obtain ⟨callee, args, tys⟩ := c
  cases callee with
  | value f => rw [ho] at hav; exact free_call hs hcx.con hcx.rcon hcx.cst ho (hav f (by simp [Op.operands, Call.operands])) (fun x hx => hav x (by simp [Op.operands, Call.operands]; exact .inr (by simpa using hx))) h
  | invoke x m => rw [ho] at h; simp [opf] at h
  | builtin b =>
   rw [ho] at hav
   by_cases hb : b = .append
   ·subst hb
    exact free_append hs hcx.te ho (fun x hx => hav x (by simp [Op.operands, Call.operands]; simpa using hx)) h
   exact free_builtin hb hs hcx.te ho (fun x hx => hav x (by simp [Op.operands, Call.operands]; simpa using hx)) h
 | _ => rw [ho] at h; simp [opf] at h
end
end Go.Gh
