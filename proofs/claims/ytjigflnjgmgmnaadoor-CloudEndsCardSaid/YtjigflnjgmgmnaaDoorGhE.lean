/- The ghost machine: frames. Conditions: none (definitions, and lemmas on them). -/
import Derived.Test.YtjigflnjgmgmnaaDoorGhD
import Derived.RangeFuncRecord
namespace Go.Gh
inductive All2 {α β : Type} (P : α → β → Prop) : List α → List β → Prop
 | nil : All2 P [] []
 | cons {a : α} {b : β} {l : List α} {l' : List β} : P a b → All2 P l l' → All2 P (a :: l) (b :: l')
theorem All2.mono {α β : Type} {P Q : α → β → Prop} (h : ∀ a b, P a b → Q a b) : ∀ {l : List α} {l' : List β}, All2 P l l' → All2 Q l l'
 | _, _, .nil => .nil
 | _, _, .cons a b => .cons (h _ _ a) (b.mono h)
theorem All2.monoR {α β : Type} {P Q : α → β → Prop} : ∀ {l : List α} {l' : List β}, (∀ a b, b ∈ l' → P a b → Q a b) → All2 P l l' → All2 Q l l'
 | _, _, _, .nil => .nil
 | _, _, h, .cons a b => .cons (h _ _ (by simp) a) (b.monoR fun a b m => h a b (by simp [m]))
theorem All2.memR {α β : Type} {P : α → β → Prop} : ∀ {l : List α} {l' : List β}, All2 P l l' → ∀ b ∈ l', ∃ a ∈ l, P a b
 | _, _, .nil, b, h => by simp at h
 | _, _, .cons (a := a) p q, b, h => by
  rcases List.mem_cons.1 h with e | h
  ·subst e; exact ⟨a, by simp, p⟩
  ·obtain ⟨c, hc, hp⟩ := q.memR b h
   exact ⟨c, by simp [hc], hp⟩
theorem All2.mono' {α β : Type} {P Q : α → β → Prop} : ∀ {l : List α} {l' : List β}, (∀ a b, a ∈ l → P a b → Q a b) → All2 P l l' → All2 Q l l'
 | _, _, _, .nil => .nil
 | _, _, h, .cons a b => .cons (h _ _ (by simp) a) (b.mono' fun a b m => h a b (by simp [m]))
def Left (ops : Array Oper) (lo : Nat) (l : List Nat) : Prop :=
 (∀ i o, ops[i]? = some o → ∀ e ∈ o.after, Region.binds .any e = true → e.on < i) ∧ lo ≤ ops.size ∧
 ∃ fuel tt listed, listed.size = ops.size ∧ listed.toList.count false = fuel ∧ (∀ x, listed.getD x false = true ↔ x < lo) ∧ l = Region.linearise.go .any ops fuel tt listed []
inductive ItOK (ρ : Nat → Option Nat) : It → Item → Prop
 | code (c : Code) : ItOK ρ (.code c) (.code c)
 | inBlock (id : Nat) : ItOK ρ (.inBlock id) (.inBlock id)
 | inLoop (b : Code) : ItOK ρ (.inLoop b) (.inLoop b)
 | loop (b : Code) : ItOK ρ (.inLoop b) (.code (.loop b))
 | inScope (b : Code) : ItOK ρ (.inScope b) (.inScope b)
 | inRegion (ops : Array Oper) (l : List Nat) : ItOK ρ (.inRegion ops l) (.inRegion ops l)
 | inDraw (ops : Array Oper) (lo : Nat) (l : List Nat) : Left ops lo l → ItOK ρ (.inDraw ops lo) (.inRegion ops l)
 | inDrawAt (ops : Array Oper) (lo : Nat) (l : List Nat) : Left ops (lo + 1) l → ItOK ρ (.inDrawAt ops lo) (.inRegion ops (lo :: l))
 | inRangeFunc (g k : Nat) : ρ g = some k → ItOK ρ (.inRangeFunc g) (.inRangeFunc k)
 | endRangeFunc (g k : Nat) : ρ g = some k → ItOK ρ (.endRangeFunc g) (.endRangeFunc k)
 | beginRound : ItOK ρ .beginRound .beginRound
abbrev ItsOK (ρ : Nat → Option Nat) := All2 (ItOK ρ)
structure FrOK (E : Env) (f : Fr) (F : Frame) : Prop where
 fn : F.fn = f.fn
 regs : RegsOK E f.regs f.n F.tmps
 todo : ItsOK E.ρ f.todo F.todo
 round : match f.round with | none => F.roundOf = none | some g => ∃ k, E.ρ g = some k ∧ F.roundOf = some k
 defers : f.defers = [] ∧ ∀ d ∈ F.defers, ∃ k, d = { target := .collected k, args := #[] } ∧ E.m.w.heap[k]? = some (Obj.deferred (some []))
 mode : F.mode = .run
 kind : F.kind = .normal
theorem ItOK.to {ρ ρ' : Nat → Option Nat} {i : It} {j : Item} (h : ∀ g, usesIt g i = true → ρ' g = ρ g) (c : ItOK ρ i j) : ItOK ρ' i j := by
 cases c with
 | inRangeFunc g k hk => exact .inRangeFunc g k (by rw [h g (by simp [usesIt])]; exact hk)
 | endRangeFunc g k hk => exact .endRangeFunc g k (by rw [h g (by simp [usesIt])]; exact hk)
 | inDraw ops lo l hl => exact .inDraw ops lo l hl
 | inDrawAt ops lo l hl => exact .inDrawAt ops lo l hl
 | _ => constructor
theorem FrOK.to {E E' : Env} {f f' : Fr} {F : Frame} (hf : f' = { f with regs := f'.regs }) (hr : RegsOK E' f'.regs f.n F.tmps) (hρ : ∀ g, usesF g f = true → E'.ρ g = E.ρ g) (hd : ∀ k, ({ target := .collected k, args := #[] } : Deferred) ∈ F.defers → E.m.w.heap[k]? = some (Obj.deferred (some [])) → E'.m.w.heap[k]? = some (Obj.deferred (some []))) (c : FrOK E f F) : FrOK E' f' F := by
 have h1 : f'.fn = f.fn := by rw [hf]
 have h2 : f'.n = f.n := by rw [hf]
 have h3 : f'.todo = f.todo := by rw [hf]
 have h4 : f'.round = f.round := by rw [hf]
 have h5 : f'.defers = f.defers := by rw [hf]
 refine ⟨by rw [h1]; exact c.fn, by rw [h2]; exact hr, ?_, ?_, ?_, c.mode, c.kind⟩
 ·rw [h3]
  exact c.todo.mono' fun i j hi h => h.to fun g hg => hρ g (by simp only [usesF, Bool.or_eq_true, List.any_eq_true]; exact .inr ⟨i, hi, hg⟩)
 ·rw [h4]
  have := c.round
  cases hq : f.round with
  | none => rw [hq] at this; exact this
  | some g =>
   rw [hq] at this
   obtain ⟨k, h6, h7⟩ := this
   exact ⟨k, by rw [hρ g (by simp [usesF, hq])]; exact h6, h7⟩
 ·rw [h5]
  exact ⟨c.defers.1, fun d hd' => let ⟨k, h6, h7⟩ := c.defers.2 d hd'; ⟨k, h6, hd k (by rw [← h6]; exact hd') h7⟩⟩
theorem FrOK.bind {B : Base} {E : Env} {id : Nat} {b : Blk} {w' : World} {q : Option Nat} (hs : StateOK B E) (h : BindOK B E id b w' q) {f : Fr} {F : Frame} (hu : usesF id f = false) (c : FrOK E f F) : FrOK (E.bind B id b w' q) (purgeF id f) F :=
 c.to rfl (c.regs.bind hs h) (fun g hg => upd_other (fun e => by subst e; rw [hu] at hg; cases hg)) (fun k _ => bind_dkeep hs h k)
theorem FrOK.keeps {E E' : Env} (h : Keeps E E') {f : Fr} {F : Frame} (c : FrOK E f F) : FrOK E' f F :=
 c.to rfl (h.regs c.regs) (fun g _ => by rw [h.ρ]) (fun k _ => h.dk k)
def bot : Frame → List Frame → FuncId
 | F, [] => F.fn
 | _, G :: l => bot G l
def Nd (B : Base) (Fs : List Frame) : Prop := (Fs.flatMap (·.defers)).Nodup ∧ ∀ d ∈ Fs.flatMap (·.defers), ∃ k, d = { target := .collected k, args := #[] } ∧ B.E0.m.w.heap.size ≤ k
structure Sim (B : Base) (E : Env) (s : Cf) (F : Frame) (Fs : List Frame) : Prop where
 heap : s.heap = E.H
 ok : StateOK B E
 fr : FrOK E s.fr F
 callers : All2 (FrOK E) s.callers Fs
 nd : Nd B (F :: Fs)
 base : s.base = B.base
def SubOK (cx : Ctx) (n : FuncId) (sb : Sub) : Prop :=
 ∀ (B : Base) (E : Env) (c : Cf) (F : Frame) (cs0 : List Frame) (x : denK sb.spec) (y : denL sb.res × denH sb.outH), B.cx.P = cx.P → B.cx.memo = cx.memo → B.cx.glob = cx.glob → B.base = sb.base → B.E0 = E → Sim B E c F [] →
  c.fr.fn = n → c.callers = [] → (∃ fn body, cx.P.funcs[n]? = some fn ∧ fn.body = some body ∧ c.fr.todo = [.code body]) → sb.outH.all (fun x => Nat.blt x.1 (sb.base * 10000000)) = true →
  decK sb.spec c = some x → sb.f (keptOf sb.spec c).cs x = some y →
  ∃ E' F' v, StateOK B E' ∧ E'.H = fillH (sb.outH.map (codesOf c.heap)) sb.outH y.2 ∧ ResOK E'.m sb.res y.1 v ∧ Steps cx.P (lone F cs0 E.m.w) (lone F' cs0 E'.m.w) ∧ F'.leaving cx.P E'.m.w (.returned v) ∧ F'.fn = F.fn
structure CtxOK' (cx : Ctx) : Prop extends CtxOKb cx where
 sub : ∀ n sb, sb ∈ cx.sub n → SubOK cx n sb
 fcon : ∀ f c, cx.fcon f = some c → FConOK cx f c ∧ ∃ fn, cx.P.funcs[f]? = some fn ∧ fn.name ≠ "runtime.NumGoroutine" ∧ fn.body.isNone = false := by intro f c h; cases h
theorem finish_defers {F : Frame} {v : Value} : (F.finish v).defers = F.defers := by
 simp only [Frame.finish]
 split <;> rfl
theorem Nd.finish {B : Base} {F : Frame} {Fs : List Frame} {v : Value} (h : Nd B (F :: Fs)) : Nd B (F.finish v :: Fs) := by
 unfold Nd at *
 rw [List.flatMap_cons, finish_defers, ← List.flatMap_cons (f := fun G : Frame => G.defers)]
 exact h
theorem Nd.push {B : Base} {G : Frame} {Fs : List Frame} (hg : G.defers = []) (h : Nd B Fs) : Nd B (G :: Fs) := by
 unfold Nd at *
 rw [List.flatMap_cons, hg, List.nil_append]
 exact h
theorem Nd.pop {B : Base} {G : Frame} {Fs : List Frame} (h : Nd B (G :: Fs)) : Nd B Fs := by
 unfold Nd at *
 rw [List.flatMap_cons] at h
 exact ⟨(List.nodup_append.1 h.1).2.1, fun d hd => h.2 d (List.mem_append_right _ hd)⟩
def StepOK {R : Type} (B : Base) (cs0 : List Frame) (E : Env) (F : Frame) (Fs : List Frame) (k : Cf → Option R) (out : AV → Heap → Option R) (r : R) : Prop :=
 (∃ s' E' F' Fs', k s' = some r ∧ Sim B E' s' F' Fs' ∧ Steps B.cx.P (lone F (Fs ++ cs0) E.m.w) (lone F' (Fs' ++ cs0) E'.m.w) ∧ bot F' Fs' = bot F Fs) ∨
 (∃ a E' F' v, out a E'.H = some r ∧ StateOK B E' ∧ CV E' a v ∧ Fs = [] ∧ Steps B.cx.P (lone F (Fs ++ cs0) E.m.w) (lone F' cs0 E'.m.w) ∧ F'.leaving B.cx.P E'.m.w (.returned v) ∧ F'.fn = F.fn)
section
variable {P : Program} {F : Frame} {cs : List Frame} {w : World} {k : List Item}
theorem m_go {F' : Frame} {cs' : List Frame} {w' : World} (hm : F.mode = .run) (h : (stepG.exec P true true F cs none w).bare = .go { frame := F', callers := cs', status := .running, dying := none } w') : Steps P (lone F cs w) (lone F' cs' w') :=
 .one (step_lone_go (by rw [← h]; simp [stepG, hm]))
theorem m_skip (hm : F.mode = .run) (ht : F.todo = .code .skip :: k) : Steps P (lone F cs w) (lone { F with todo := k } cs w) := m_go hm (by simp [stepG.exec, ht])
theorem m_label {l : Nat} (hm : F.mode = .run) (ht : F.todo = .code (.label l) :: k) : Steps P (lone F cs w) (lone { F with todo := k } cs w) := m_go hm (by simp [stepG.exec, ht])
theorem m_inBlock {l : Nat} (hm : F.mode = .run) (ht : F.todo = .inBlock l :: k) : Steps P (lone F cs w) (lone { F with todo := k } cs w) := m_go hm (by simp [stepG.exec, ht])
theorem m_inScope {b : Code} (hm : F.mode = .run) (ht : F.todo = .inScope b :: k) : Steps P (lone F cs w) (lone { F with todo := k } cs w) := m_go hm (by simp [stepG.exec, ht])
theorem m_seq {a b : Code} (hm : F.mode = .run) (ht : F.todo = .code (.seq a b) :: k) : Steps P (lone F cs w) (lone { F with todo := .code a :: .code b :: k } cs w) := m_go hm (by simp [stepG.exec, ht])
theorem m_cond {x : Operand} {a b : Code} {v : Bool} (hm : F.mode = .run) (ht : F.todo = .code (.cond x a b) :: k) (hx : F.eval x = .bool v) : Steps P (lone F cs w) (lone { F with todo := .code (if v then a else b) :: k } cs w) :=
 m_go hm (by simp [stepG.exec, ht, hx])
theorem m_block {l : Nat} {b : Code} (hm : F.mode = .run) (ht : F.todo = .code (.block l b) :: k) : Steps P (lone F cs w) (lone { F with todo := .code b :: .inBlock l :: k } cs w) := m_go hm (by simp [stepG.exec, ht])
theorem m_loop {b : Code} (hm : F.mode = .run) (ht : F.todo = .code (.loop b) :: k) : Steps P (lone F cs w) (lone { F with todo := .code b :: .inLoop b :: k } cs w) := m_go hm (by simp [stepG.exec, ht])
theorem m_inLoop {b : Code} (hm : F.mode = .run) (ht : F.todo = .inLoop b :: k) : Steps P (lone F cs w) (lone { F with todo := .code b :: .inLoop b :: k } cs w) := m_go hm (by simp [stepG.exec, ht])
theorem m_scope {b : Code} (hm : F.mode = .run) (ht : F.todo = .code (.scope b) :: k) : Steps P (lone F cs w) (lone { F with todo := .code b :: .inScope b :: k } cs w) := m_go hm (by simp [stepG.exec, ht])
theorem m_exit {l : Nat} {k' : List Item} (hm : F.mode = .run) (ht : F.todo = .code (.exit l) :: k) (h : exitTo l k = some k') : Steps P (lone F cs w) (lone { F with todo := k' } cs w) := m_go hm (by simp [stepG.exec, ht, h])
theorem m_goto {l : Nat} {k' : List Item} (hm : F.mode = .run) (ht : F.todo = .code (.goto l) :: k) (h : gotoIn l k = some k') : Steps P (lone F cs w) (lone { F with todo := k' } cs w) := m_go hm (by simp [stepG.exec, ht, h])
theorem m_region {id : Nat} {ops : Array Oper} (hm : F.mode = .run) (ht : F.todo = .code (.region id ops false) :: k) : Steps P (lone F cs w) (lone { F with todo := .inRegion ops (List.range ops.size) :: k } cs w) := m_go hm (by simp [stepG.exec, ht])
theorem m_draw {id : Nat} {ops : Array Oper} (hm : F.mode = .run) (ht : F.todo = .code (.region id ops true) :: k) :
  ∃ t, Steps P (lone F cs w) (lone { F with todo := .inRegion ops (Region.schedule (P.follows .mixedOrders) ops t) :: k } cs w.drew) := 
 ⟨w.tape w.drawn (.order F.fn id), m_go hm (by simp [stepG.exec, ht, choose, Sem.run, Question.forced, Question.cut])⟩
theorem m_regionEnd {ops : Array Oper} (hm : F.mode = .run) (ht : F.todo = .inRegion ops [] :: k) : Steps P (lone F cs w) (lone { F with todo := k } cs w) := m_go hm (by simp [stepG.exec, ht])
theorem m_unwanted {ops : Array Oper} {i : Nat} {is : List Nat} {o : Oper} (hm : F.mode = .run) (ht : F.todo = .inRegion ops (i :: is) :: k) (ho : ops[i]? = some o) (hw : Region.wanted o (yielded ops F.tmps) = false) :
  Steps P (lone F cs w) (lone (F.finish undef) cs w) := m_go hm (by simp [stepG.exec, ht, ho, hw])
theorem m_op {ops : Array Oper} {i : Nat} {is : List Nat} {o : Oper} (ht : F.todo = .inRegion ops (i :: is) :: k) (ho : ops[i]? = some o) (hw : Region.wanted o (yielded ops F.tmps) = true) (hd : ∀ c, o.op ≠ .defer c) :
  stepG.exec P true true F cs none w = stepG.apply P true F cs none (execOp F.eval o) w := by
 simp only [stepG.exec, ht, ho, hw, Option.map_some, Option.getD_some, if_true, stepG.oper, Frame.oper?]
 cases hr : F.roundOf with
 | none => rfl
 | some l =>
  cases hop : o.op <;> first | rfl | exact absurd hop (hd _)
theorem m_does {ops : Array Oper} {i : Nat} {is : List Nat} {o : Oper} {v : Value} {w' : World} (hm : F.mode = .run) (ht : F.todo = .inRegion ops (i :: is) :: k) (ho : ops[i]? = some o) (hw : Region.wanted o (yielded ops F.tmps) = true) (hd : ∀ c, o.op ≠ .defer c)
  (h : Does P o F.eval w F cs v w') : Steps P (lone F cs w) (lone (F.finish v) cs w') := by
 rcases h with h | ⟨h, rfl⟩ | ⟨f, args, h, fr, h1, h2⟩
 ·exact m_go hm (by rw [m_op ht ho hw hd]; simp [stepG.apply, h])
 ·exact m_go hm (by rw [m_op ht ho hw hd]; simp [stepG.apply, h])
 ·have h0 : Steps P (lone F cs w) (lone (Frame.enter P f args .normal) (F :: cs) w) := m_go hm (by rw [m_op ht ho hw hd]; simp [stepG.apply, h, ht])
  exact h0.trans (h1.trans (.one (step_leave_returned h2)))
theorem m_enter {ops : Array Oper} {i : Nat} {is : List Nat} {o : Oper} {f : FuncId} {args : Array Value} (hm : F.mode = .run) (ht : F.todo = .inRegion ops (i :: is) :: k) (ho : ops[i]? = some o) (hw : Region.wanted o (yielded ops F.tmps) = true) (hd : ∀ c, o.op ≠ .defer c)
  (h : (execOp F.eval o).run P w = .ok (.enter f args) w) : Steps P (lone F cs w) (lone (Frame.enter P f args .normal) (F :: cs) w) := m_go hm (by rw [m_op ht ho hw hd]; simp [stepG.apply, h, ht])
theorem m_yield {ops : Array Oper} {i : Nat} {is : List Nat} {o : Oper} {l : Nat} {f : FuncId} {tmps : Array Value} {a b : Code} (hm : F.mode = .run) (ht : F.todo = .inRegion ops (i :: is) :: k) (ho : ops[i]? = some o) (hw : Region.wanted o (yielded ops F.tmps) = true) (hd : ∀ c, o.op ≠ .defer c)
  (h : (execOp F.eval o).run P w = .ok (.round l f tmps a b) w) : Steps P (lone F cs w) (lone (Frame.round l f tmps a b .normal) (F :: cs) w) := m_go hm (by rw [m_op ht ho hw hd]; simp [stepG.apply, h])
theorem m_begin {l : Nat} {w' : World} (hm : F.mode = .run) (ht : F.todo = .beginRound :: k) (hr : F.roundOf = some l) (h : (Instr.beginRound l).run P w = .ok () w') : Steps P (lone F cs w) (lone { F with todo := k } cs w') :=
 m_go hm (by simp [stepG.exec, ht, hr, stepG.apply, h, Frame.finish, Result.andThen])
theorem m_endRange {l : Nat} {w' : World} {jump : Option Code} (hm : F.mode = .run) (ht : F.todo = .endRangeFunc l :: k) (h : (Instr.endLoop l).run P w = .ok jump w') :
  Steps P (lone F cs w) (lone { F with todo := (jump.map Item.code).toList ++ k } cs w') := m_go hm (by simp [stepG.exec, ht, Sem.runT_eq, h])
end
end Go.Gh
/- The ghost machine: control. Conditions: none (lemmas alone). -/
namespace Go.Gh
theorem setTmp {tmps : Array Value} {d t : Nat} {v : Value} : (tmps.setIfInBounds d v).getD t undef = if d = t ∧ d < tmps.size then v else tmps.getD t undef := by
 simp only [Array.getD_eq_getD_getElem?, Array.getElem?_setIfInBounds]
 by_cases h : d = t
 ·subst h
  by_cases h2 : d < tmps.size
  ·simp [h2]
  ·simp [h2]
 ·simp [h]
theorem blt_t {d n : Nat} (h : d < n) : Nat.blt d n = true := by simp only [Nat.blt, Nat.ble_eq]; omega
theorem blt_f {d n : Nat} (h : ¬ d < n) : Nat.blt d n = false := by
 cases hq : Nat.blt d n with
 | false => rfl
 | true => simp only [Nat.blt, Nat.ble_eq] at hq; omega
theorem blt_iff {d n : Nat} : Nat.blt d n = true ↔ d < n := by simp only [Nat.blt, Nat.ble_eq]; omega
theorem RegsOK.put {E : Env} {r : Regs} {n : Nat} {tmps : Array Value} {d : Option Nat} {a : AV} {v : Value} (c : RegsOK E r n tmps) (h : CV E a v) :
  RegsOK E (putR n r d a) n (match d with | some d => tmps.setIfInBounds d v | none => tmps) := by
 cases d with
 | none => exact c
 | some d =>
  refine ⟨by simp [c.1], fun t => ?_⟩
  simp only [putR]
  rw [setTmp, c.1]
  by_cases hd : d < n
  ·rw [blt_t hd, cond_true]
   simp only [look]
   by_cases e : d = t
   ·rw [if_pos e, if_pos ⟨e, hd⟩]; exact h
   ·rw [if_neg e, if_neg (fun h => e h.1)]; exact c.2 t
  ·rw [blt_f hd, cond_false, if_neg (fun h => hd h.2)]
   exact c.2 t
theorem All2.cons_inv {α β : Type} {P : α → β → Prop} {a : α} {l : List α} {l' : List β} (h : All2 P (a :: l) l') : ∃ b m, l' = b :: m ∧ P a b ∧ All2 P l m := by
 cases h with
 | cons p q => exact ⟨_, _, rfl, p, q⟩
section
variable {R : Type} {B : Base} {E : Env} {s : Cf} {F : Frame} {Fs cs0 : List Frame} {k : Cf → Option R} {out : AV → Heap → Option R} {r : R}
theorem curOp_ok {ρ : Nat → Option Nat} {it nxt : It} {item : Item} {ops : Array Oper} {i : Nat} (h : ItOK ρ it item) (hc : curOp it = some (ops, i, nxt)) : ∃ l, item = .inRegion ops (i :: l) ∧ ItOK ρ nxt (.inRegion ops l) := by
 cases h with
 | inRegion ops' l =>
  cases l with
  | nil => simp [curOp] at hc
  | cons j l =>
   simp only [curOp, Option.some.injEq, Prod.mk.injEq] at hc
   obtain ⟨rfl, rfl, rfl⟩ := hc
   exact ⟨l, rfl, .inRegion _ _⟩
 | inDrawAt ops' lo l hl =>
  simp only [curOp, Option.some.injEq, Prod.mk.injEq] at hc
  obtain ⟨rfl, rfl, rfl⟩ := hc
  exact ⟨l, rfl, .inDraw _ _ _ hl⟩
 | _ => simp [curOp] at hc
theorem FrOK.finish {f : Fr} {a : AV} {v : Value} {it nxt : It} {ops : Array Oper} {i : Nat} {rest : List It} (c : FrOK E f F) (ht : f.todo = it :: rest) (hc : curOp it = some (ops, i, nxt)) (h : CV E a v) :
  FrOK E { f with regs := putR f.n f.regs ((ops[i]?).bind (·.dst)) a, todo := nxt :: rest } (F.finish v) := by
 obtain ⟨j, T, e, h1, h2⟩ := All2.cons_inv (by rw [← ht]; exact c.todo)
 obtain ⟨l, rfl, h3⟩ := curOp_ok h1 hc
 have e' : F.finish v = { F with tmps := (match (ops[i]?).bind (·.dst) with | some d => F.tmps.setIfInBounds d v | none => F.tmps), todo := .inRegion ops l :: T } := by simp only [Frame.finish, e]; cases (ops[i]?).bind (·.dst) <;> rfl
 rw [e']
 exact ⟨c.fn, c.regs.put h, .cons h3 h2, c.round, c.defers, c.mode, c.kind⟩
theorem Sim.todo {t : List It} {T : List Item} (h : Sim B E s F Fs) (ht : ItsOK E.ρ t T) : Sim B E (setTodo s t) { F with todo := T } Fs :=
 ⟨h.heap, h.ok, ⟨h.fr.fn, h.fr.regs, ht, h.fr.round, h.fr.defers, h.fr.mode, h.fr.kind⟩, h.callers, h.nd, h.base⟩
theorem bot_todo {T : List Item} : bot { F with todo := T } Fs = bot F Fs := by cases Fs <;> rfl
theorem StepOK.todo {t : List It} {T : List Item} (h : Sim B E s F Fs) (ht : ItsOK E.ρ t T) (hk : k (setTodo s t) = some r) (hst : Steps B.cx.P (lone F (Fs ++ cs0) E.m.w) (lone { F with todo := T } (Fs ++ cs0) E.m.w)) : StepOK B cs0 E F Fs k out r :=
 .inl ⟨_, E, _, Fs, hk, h.todo ht, hst, bot_todo⟩
theorem exit_ok {ρ : Nat → Option Nat} {id : Nat} : ∀ {t t' : List It} {T : List Item}, ItsOK ρ t T → exitIt id t = some t' → ∃ T', exitTo id T = some T' ∧ ItsOK ρ t' T'
 | _, _, _, .nil, h => by simp [exitIt] at h
 | _, _, _, .cons (a := a) (b := b) (l := l) (l' := l') p q, h => by
  cases p with
  | inBlock id' =>
   simp only [exitIt] at h
   simp only [exitTo]
   split at h
   ·rename_i e; cases h; rw [if_pos e]; exact ⟨_, rfl, q⟩
   ·rename_i e; rw [if_neg e]; exact exit_ok q h
  | _ => simp only [exitIt] at h; simp only [exitTo]; exact exit_ok q h
theorem goto_ok {ρ : Nat → Option Nat} {id : Nat} : ∀ {t t' : List It} {T : List Item}, ItsOK ρ t T → gotoIt id t = some t' → ∃ T', gotoIn id T = some T' ∧ ItsOK ρ t' T'
 | _, _, _, .nil, h => by simp [gotoIt] at h
 | _, _, _, .cons (a := a) (b := b) (l := l) (l' := l') p q, h => by
  cases p with
  | inScope body =>
   simp only [gotoIt] at h
   simp only [gotoIn]
   split at h
   ·rename_i rest e; cases h; simp only [e]; exact ⟨_, rfl, .cons (.code _) (.cons (.inScope _) q)⟩
   ·rename_i e; simp only [e]; exact goto_ok q h
  | _ => simp only [gotoIt] at h; simp only [gotoIn]; exact goto_ok q h
def resF (tmps : Array Value) : ResultVar → Sem Value
 | .tmp t => pure (tmps.getD t undef)
 | .cell a t => do loadVar t (← asAddr (tmps.getD a undef))
theorem results_eq (fn : Func) (tmps : Array Value) : results fn tmps = (do let vs ← fn.results.mapM (resF tmps); pure (if h : vs.size = 1 then vs[0] else .tuple vs)) := by
 unfold results
 have : (fun x : ResultVar => (match x with | .tmp t => pure (tmps.getD t undef) | .cell a t => do loadVar t (← asAddr (tmps.getD a undef)) : Sem Value)) = resF tmps := by
  funext x; cases x <;> rfl
 rw [← this]
 rfl
theorem resA_ok (hs : StateOK B E) (hte : ∀ T te, B.cx.te T = some te → TEok B.cx.P T te) (hh : s.heap = E.H) (hr : RegsOK E s.fr.regs s.fr.n F.tmps) : ∀ (l : List ResultVar) (as : List AV), resA B.cx s l = some as →
  ∃ vs : List Value, (l.mapM (resF F.tmps)).run B.cx.P E.m.w = .ok vs E.m.w ∧ CVL E as vs ∧ vs.length = l.length ∧ as.length = l.length
 | [], as, h => by
  simp only [resA, Option.some.injEq] at h
  subst h
  exact ⟨[], rfl, by unfold CVL; rfl, rfl, rfl⟩
 | .tmp t :: l, as, h => by
  simp only [resA] at h
  split at h
  ·rename_i as' h'
   cases h
   obtain ⟨vs, h1, h2, h3, h4⟩ := resA_ok hs hte hh hr l as' h'
   refine ⟨F.tmps.getD t undef :: vs, ?_, ?_, by simp [h3], by simp [h4]⟩
   ·simp only [List.mapM_cons, resF, Sem.run_bind, Sem.run_pure, Result.andThen_ok, h1]
   ·unfold CVL; exact ⟨_, _, rfl, CVL.elem (hr.2 t), h2⟩
  ·cases h
 | .cell a T :: l, as, h => by
  simp only [resA] at h
  split at h
  ·rename_i id te hla hT
   split at h
   ·rename_i b f hl
    split at h
    ·rename_i hc
     simp only [Bool.and_eq_true, decide_eq_true_eq, beq_iff_eq] at hc
     split at h
     ·rename_i as' h'
      cases h
      obtain ⟨vs, h1, h2, h3, h4⟩ := resA_ok hs hte hh hr l as' h'
      have hp := hr.2 a
      rw [hla] at hp
      have hp := hp.one rfl (by simp [skA])
      unfold CC at hp
      obtain ⟨u, e, _, hv⟩ := hp
      rw [hh] at hl
      obtain ⟨kk, hk, hu⟩ := hv _ hl
      obtain ⟨k', arr, e', p1, p2, p3, p4⟩ := hs.blk _ _ hl
      rw [hk] at p1; cases p1
      obtain ⟨v, q⟩ := ofCells_some p4
      have hload := run_loadVar (P := B.cx.P) (w := E.m.w) (hte _ _ hT) (k := kk) (off := 0) (cs := arr.toList) (v := v) (by rw [CC.len _ p4]; exact hc.1) (fun j v hj => by rw [Nat.zero_add]; simp only [World.cell?, p3]; simpa using hj) (by rw [← hc.2]; exact q)
      refine ⟨v :: vs, ?_, ?_, by simp [h3], by simp [h4]⟩
      ·have hav : F.tmps.getD a undef = .pointer (some ⟨kk, 0, none⟩) := by rw [(List.cons.inj e).1, hu]; simp [offK]
       have ha : (asAddr (F.tmps.getD a undef)).run B.cx.P E.m.w = .ok ⟨kk, 0, none⟩ E.m.w := by rw [hav]; rfl
       simp only [List.mapM_cons, resF, Sem.run_bind, ha, Result.andThen_ok, hload, h1, Sem.run_pure]
      ·unfold CVL; exact ⟨_, _, rfl, .inl ⟨_, p4, q⟩, h2⟩
     ·cases h
    ·cases h
   ·cases h
  ·cases h
theorem tupA_ok {as : List AV} {vs : List Value} (h : CVL E as vs) (hl : as.length = vs.length) : CV E (tupA as) (if h : vs.length = 1 then vs[0] else .tuple vs.toArray) := by
 match as, vs, hl with
 | [a], [v], _ =>
  unfold CVL at h
  obtain ⟨u, us, e, h1, _⟩ := h
  cases e
  simp only [tupA, List.length_cons, List.length_nil, Nat.zero_add, dite_true, List.getElem_cons_zero]
  rcases h1 with ⟨cs, p, q⟩ | h1
  ·exact CV.mk p q
  ·cases a <;> simp [AV.isTop] at h1
   trivial
 | [], [], _ => exact ⟨[], rfl, h⟩
 | a :: b :: as, v :: u :: vs, hl =>
  rw [dif_neg (by simp)]
  exact ⟨_, rfl, h⟩
theorem results_ok (hs : StateOK B E) (hte : ∀ T te, B.cx.te T = some te → TEok B.cx.P T te) (hh : s.heap = E.H) (hr : RegsOK E s.fr.regs s.fr.n F.tmps) {fn : Func} {as : List AV} (h : resA B.cx s fn.results.toList = some as) :
  ∃ v, (results fn F.tmps).run B.cx.P E.m.w = .ok v E.m.w ∧ CV E (tupA as) v := by
 obtain ⟨vs, h1, h2, h3, h4⟩ := resA_ok hs hte hh hr _ _ h
 refine ⟨_, ?_, tupA_ok h2 (by rw [h3, h4])⟩
 simp only [results_eq, Sem.run_bind, Array.mapM_eq_mapM_toList, Sem.run_map, h1, Result.andThen_ok, Sem.run_pure, List.size_toArray, List.getElem_toArray]
theorem obj_write {id : Nat} {b b' : Blk} {kk : Nat} {o o' : Obj} (hl : hlook E.H id = some b) (hk : E.ρ id = some kk) (hal : Alike b b') (ho : E.m.w.heap[kk]? = some o) (h1 : ∀ c e f, o ≠ .cells c e f) :
  WriteOK E id b b' (E.m.w.putObj kk o') kk := by
 have hother : ∀ j, j ≠ kk → (E.m.w.putObj kk o').heap[j]? = E.m.w.heap[j]? := fun j hj => World.putObj_heap_other hj
 refine ⟨hl, hk, hal, by simp, rfl, rfl, rfl, fun k' j v hc _ => ?_, fun k' x hx => ?_, hother⟩
 ·have e : k' ≠ kk := fun e => by
   subst e
   simp only [Mem.cell, World.cell?, ho] at hc
   cases o <;> first | (cases hc; done) | exact h1 _ _ _ rfl
  rw [cell_block (hother k' e) j]; exact hc
 ·have e : k' ≠ kk := fun e => by
   subst e
   simp only [World.shape?, ho] at hx
   cases o <;> first | (cases hx; done) | exact h1 _ _ _ rfl
  rw [shape_block (hother k' e)]; exact hx
theorem write_keeps (hs : StateOK B E) {id : Nat} {b b' : Blk} {kk : Nat} {w' : World} (h : WriteOK E id b b' w' kk) : Keeps E (E.write id b' w') := ⟨write_le h, write_goes h, rfl, write_dkeep hs h⟩
theorem shut1 (hs : StateOK B E) {kk : Nat} (h : E.m.w.heap[kk]? = some (Obj.deferred (some []))) (hb : B.E0.m.w.heap.size ≤ kk) : StateOK B (E.world (E.m.w.putObj kk (.deferred none)) E.m.M) ∧ E.m.le (E.world (E.m.w.putObj kk (.deferred none)) E.m.M).m := by
 have hother : ∀ k, k ≠ kk → (E.m.w.putObj kk (.deferred none)).heap[k]? = E.m.w.heap[k]? := fun k hk => World.putObj_heap_other hk
 have hle : E.m.le (E.world (E.m.w.putObj kk (.deferred none)) E.m.M).m := by
  refine ⟨fun k j v hc hm => ⟨?_, hm⟩, fun _ _ h => h, fun k x hk => ?_⟩
  ·have hne : k ≠ kk := fun e => by
    subst e
    simp [Mem.cell, World.cell?, h] at hc
   rw [← hc]; exact cell_block (hother k hne) j
  ·have hne : k ≠ kk := fun e => by
    subst e
    simp [World.shape?, h] at hk
   rw [← hk]; exact shape_block (hother k hne)
 have hs0 := hs.size0
 have hst : Stays B.bound B.E0 (E.world (E.m.w.putObj kk (.deferred none)) E.m.M) := by
  refine ⟨hs.since.le.trans hle, fun j hj => (hs.since.goes j hj).trans (world_goes j), hs.since.rho, hs.since.codes, fun k hk => ?_, ?_, fun k hk hi => ⟨(hs.since.idle k hk hi).1, fun o ho hm => ?_⟩⟩
  ·rw [show (E.world (E.m.w.putObj kk (.deferred none)) E.m.M).m.w.heap[k]? = E.m.w.heap[k]? from hother k (fun e => by have := lt_of_some hk; omega)]
   exact hs.since.dk k hk
  ·show _ ≤ (E.m.w.putObj kk (.deferred none)).heap.size
   simp only [World.putObj, Array.size_setIfInBounds]
   exact hs.since.grow
  ·rw [show (E.world (E.m.w.putObj kk (.deferred none)) E.m.M).m.w.heap[k]? = E.m.w.heap[k]? from hother k (by omega)]
   exact (hs.since.idle k hk hi).2 o ho hm
 refine ⟨⟨hs.wri, hs.fo, hs.inj, fun j b hj => ?_, ?_, ?_, hs.reg, hs.late, fun g => CV.to hle (fun i _ => world_goes i) (hs.glob g), hs.globm, hst, hs.size0⟩, hle⟩
 ·have h0 : BOK B E j b := hs.blk _ _ hj
  exact h0.to hle (fun i _ => world_goes i) (fun _ _ _ _ _ _ _ _ _ _ _ => rfl) rfl (fun k hk => hother k (fun e => by subst e; exact BOK.notDfr h0 hk h))
 ·refine hs.memo.to hle rfl (fun km x hk => hother km (fun e => ?_))
  subst e
  obtain ⟨es, clock, h1⟩ := memo_block hs.memo (by rw [hk]; rfl)
  rw [h] at h1; cases h1
 ·refine ⟨?_, hs.ext.os, hs.ext.tape, hs.ext.output, fun k hk => ?_⟩
  ·show _ ≤ (E.m.w.putObj kk (.deferred none)).heap.size
   simp only [World.putObj, Array.size_setIfInBounds]
   exact hs.ext.size
  ·have : (E.world (E.m.w.putObj kk (.deferred none)) E.m.M).m.w.heap[k]? = E.m.w.heap[k]? := hother k (by omega)
   rw [this]
   exact hs.ext.same k hk
theorem shut_ok : ∀ (ds : List Deferred) {E : Env} {F : Frame} {cs : List Frame}, StateOK B E → F.defers = ds → F.mode = .returning → ds.Nodup → (∀ d ∈ ds, ∃ k, d = { target := .collected k, args := #[] } ∧ B.E0.m.w.heap.size ≤ k ∧ E.m.w.heap[k]? = some (Obj.deferred (some []))) →
  ∃ E', StateOK B E' ∧ E'.H = E.H ∧ E'.ρ = E.ρ ∧ E.m.le E'.m ∧ (∀ j, Goes E E' j) ∧ (∀ k, ({ target := .collected k, args := #[] } : Deferred) ∉ ds → E.m.w.heap[k]? = some (Obj.deferred (some [])) → E'.m.w.heap[k]? = some (Obj.deferred (some []))) ∧
   Steps B.cx.P (lone F cs E.m.w) (lone { F with defers := [] } cs E'.m.w)
 | [], E, F, cs, hs, hd, _, _, _ => by
  refine ⟨E, hs, rfl, rfl, Mem.le.refl _, (Keeps.refl E).goes, fun _ _ h => h, ?_⟩
  rw [show { F with defers := [] } = F from by cases F; simp only at hd; subst hd; rfl]
  exact .refl _ _
 | d :: ds, E, F, cs, hs, hd, hm, hnd, hk => by
  obtain ⟨kk, e1, hb, hh⟩ := hk d (by simp)
  obtain ⟨hs1, hle1⟩ := shut1 hs hh hb
  rw [List.nodup_cons] at hnd
  have hother : ∀ k, k ≠ kk → (E.m.w.putObj kk (.deferred none)).heap[k]? = E.m.w.heap[k]? := fun k hk => World.putObj_heap_other hk
  obtain ⟨E', q1, q2, q3, q4, q5, q6, q7⟩ := shut_ok ds (E := E.world (E.m.w.putObj kk (.deferred none)) E.m.M) (F := { F with defers := ds }) (cs := cs) hs1 rfl hm hnd.2 (fun d' hd' => by
   obtain ⟨k', e2, h2, h3⟩ := hk d' (by simp [hd'])
   refine ⟨k', e2, h2, ?_⟩
   rw [show (E.world (E.m.w.putObj kk (.deferred none)) E.m.M).m.w.heap[k']? = E.m.w.heap[k']? from hother k' (fun e => by subst e; rw [e1, ← e2] at hnd; exact hnd.1 hd')]
   exact h3)
  refine ⟨E', q1, q2, q3, hle1.trans q4, fun j b hj => ?_, fun k hn hk' => q6 k (fun hc => hn (by simp [hc])) ?_, ?_⟩
  ·obtain ⟨b1, p1, p2, p3, p4⟩ := q5 j b hj
   exact ⟨b1, p1, p2, p3, p4⟩
  ·rw [show (E.world (E.m.w.putObj kk (.deferred none)) E.m.M).m.w.heap[k]? = E.m.w.heap[k]? from hother k (fun e => by subst e; exact hn (by rw [e1]; simp))]
   exact hk'
  ·refine Steps.trans (.one (step_lone_go ?_)) q7
   simp [stepG, unwind, hm, hd, e1, Sem.runT_eq, run_takeDeferred hh, Env.world]
theorem goOn_ok {E : Env} {s : Cf} {f : Fr} {cs : List Fr} {Fc : Frame} {Fs : List Frame} {a : AV} {v : Value} (hs : StateOK B E) (hh : s.heap = E.H) (hf : FrOK E f Fc) (hcs : All2 (FrOK E) cs Fs) (hnd : Nd B (Fc :: Fs)) (hbase : s.base = B.base) (hv : CV E a v) (h : goOn s f cs a k = some r) :
  ∃ s', k s' = some r ∧ Sim B E s' (Fc.finish v) Fs ∧ bot (Fc.finish v) Fs = bot Fc Fs := by
 have hb : bot (Fc.finish v) Fs = bot Fc Fs := by
  cases Fs with
  | cons _ _ => rfl
  | nil =>
   simp only [bot, Frame.finish]
   split <;> rfl
 unfold goOn at h
 split at h
 ·rename_i it rest ht
  split at h
  ·rename_i ops i nxt hc
   exact ⟨_, h, ⟨hh, hs, hf.finish ht hc hv, hcs, hnd.finish, hbase⟩, hb⟩
  ·split at h
   ·rename_i g _
    obtain ⟨j, T, e, h1, h2⟩ := All2.cons_inv (by rw [← ht]; exact hf.todo)
    cases h1
    rename_i kk hk
    have e' : Fc.finish v = { Fc with todo := .endRangeFunc kk :: T } := by simp only [Frame.finish, e]
    refine ⟨_, h, ⟨hh, hs, ?_, hcs, hnd.finish, hbase⟩, hb⟩
    rw [e']
    exact ⟨hf.fn, hf.regs, .cons (.endRangeFunc _ _ hk) h2, hf.round, hf.defers, hf.mode, hf.kind⟩
   ·cases h
 ·cases h
theorem m_leave {P : Program} {cs : List Frame} {w : World} (hm : F.mode = .run) (hr : F.roundOf = none) (ht : F.todo = [] ∨ ∃ T, F.todo = .code .ret :: T) : Steps P (lone F cs w) (lone { F with mode := .returning } cs w) := by
 rcases ht with ht | ⟨T, ht⟩
 ·exact m_go hm (by simp [stepG.exec, ht, hr])
 ·exact m_go hm (by simp [stepG.exec, ht, hr])
def Ends (T : List Item) (jump : Option Code) : Prop :=
 (T = [] ∧ jump = none) ∨ (∃ k, T = .code .ret :: k ∧ jump = some .ret) ∨ (∃ k id, T = .code (.exit id) :: k ∧ exitTo id k = none ∧ jump = some (.exit id)) ∨ (∃ k l, T = .code (.goto l) :: k ∧ gotoIn l k = none ∧ jump = some (.goto l))
theorem m_leaveRound {P : Program} {c : Frame} {cs : List Frame} {w w' : World} {l : Nat} {jump : Option Code} {v : Value} (hm : F.mode = .run) (hk : F.kind = .normal) (hr : F.roundOf = some l) (ht : Ends F.todo jump)
  (h : (Instr.endRound l jump).run P w = .ok v w') : Steps P (lone F (c :: cs) w) (lone (c.finish v) cs w') := by
 rcases ht with ⟨ht, rfl⟩ | ⟨T, ht, rfl⟩ | ⟨T, id, ht, he, rfl⟩ | ⟨T, id, ht, he, rfl⟩
 ·exact m_go hm (by simp [stepG.exec, ht, hr, Sem.runT_eq, h, doReturn, hk])
 ·exact m_go hm (by simp [stepG.exec, ht, hr, Sem.runT_eq, h, doReturn, hk])
 ·exact m_go hm (by simp [stepG.exec, ht, hr, he, Sem.runT_eq, h, doReturn, hk])
 ·exact m_go hm (by simp [stepG.exec, ht, hr, he, Sem.runT_eq, h, doReturn, hk])
theorem lend1_less (id : Nat) : ∀ H : Heap, HLess (lend1 id H) H
 | [] => fun j b h => by simp [lend1, hlook] at h
 | (i, b) :: H => by
  intro j c h
  simp only [lend1] at h
  split at h
  ·rename_i e
   split at h
   ·rename_i t xs l
    simp only [hlook] at h ⊢
    split at h
    ·rename_i e2; cases h; rw [if_pos e2]; exact ⟨_, rfl, .row t xs l⟩
    ·rename_i e2; rw [if_neg e2]; exact ⟨c, h, .refl _⟩
   ·exact ⟨c, h, .refl _⟩
  ·simp only [hlook] at h ⊢
   split at h
   ·rename_i e2; cases h; rw [if_pos e2]; exact ⟨_, rfl, .refl _⟩
   ·rename_i e2; rw [if_neg e2]; exact lend1_less id H j c h
mutual
theorem lendA_less : (a : AV) → ∀ H : Heap, HLess (lendA a H) H
 | .agg fs, H => by simp only [lendA]; exact lendL_less fs H
 | .arrL fs, H => by simp only [lendA]; exact lendL_less fs H
 | .tup fs, H => by simp only [lendA]; exact lendL_less fs H
 | .row id, H => by simp only [lendA]; exact lend1_less id H
 | .sub id _ _, H => by simp only [lendA]; exact lend1_less id H
 | .dat _ _, H | .ptr _ _, H | .cptr _ _, H | .hp _ _ _, H | .full _ _, H | .hmp _ _ _, H | .hm _ _ _, H | .nilsl, H | .nilp, H | .nilf, H | .nilm, H | .fn _ _ _, H | .yld _, H | .any, H | .top, H => by simp only [lendA]; exact HLess.refl H
theorem lendL_less : (as : List AV) → ∀ H : Heap, HLess (lendL as H) H
 | [], H => by simp only [lendL]; exact HLess.refl H
 | a :: as, H => by simp only [lendL]; exact (lendL_less as _).trans (lendA_less a H)
end
theorem less_keeps (hs : StateOK B E) {H' : Heap} (h : HLess H' E.H) : Keeps E (E.less B H') := ⟨less_le hs h, less_goes h, rfl, fun _ h => h⟩
mutual
theorem eqT_refl : (t : Ty) → eqT t t ≠ none
 | .int k => by simp [eqT]
 | .bool => by simp [eqT]
 | .str => by simp [eqT]
 | .struct fs => by
  have := eqL_refl fs
  simp only [eqT]
  cases h : eqL fs fs with
  | none => exact absurd h this
  | some e => obtain ⟨e⟩ := e; simp
 | .arr n t => by
  have := eqT_refl t
  simp only [eqT]
  cases h : eqT t t with
  | none => exact absurd h this
  | some e => obtain ⟨e⟩ := e; simp
 | .slice t => by
  have := eqT_refl t
  simp only [eqT]
  cases h : eqT t t with
  | none => exact absurd h this
  | some e => obtain ⟨e⟩ := e; simp
 | .hnd i t => by
  have := eqT_refl t
  simp only [eqT]
  cases h : eqT t t with
  | none => exact absurd h this
  | some e => obtain ⟨e⟩ := e; simp
theorem eqL_refl : (ts : List Ty) → eqL ts ts ≠ none
 | [] => by simp [eqL]
 | t :: ts => by
  have h1 := eqT_refl t
  have h2 := eqL_refl ts
  simp only [eqL]
  cases h : eqT t t with
  | none => exact absurd h h1
  | some e =>
   cases h' : eqL ts ts with
   | none => exact absurd h' h2
   | some e' => obtain ⟨e⟩ := e; obtain ⟨e'⟩ := e'; simp
end
theorem castT_same (t : Ty) (x : den t) : castT t t x = some x := by
 unfold castT
 cases h : eqT t t with
 | none => exact absurd h (eqT_refl t)
 | some e => obtain ⟨e⟩ := e; rfl
theorem settle1_ok {E : Env} (hl : LentOK E) {a : AV} {v : Value} (h : CV E a v) : CV E (settle1 E.H a) v := by
 cases a with
 | row id =>
  simp only [settle1]
  split
  ·rename_i t xs hq
   obtain ⟨cs, p, q⟩ := toDat_EV hl (t := .slice t) (x := xs) h (by simp only [toDat, hq]; exact castT_same (.slice t) xs)
   exact CV.mk (a := .dat (.slice t) xs) (by unfold CC; exact p) q
  ·exact h
 | sub id lo len =>
  simp only [settle1]
  split
  ·rename_i t xs hq
   obtain ⟨cs, p, q⟩ := toDat_EV hl (t := .slice t) (x := List.take len (List.drop lo xs)) h (by simp only [toDat, hq]; exact castT_same (.slice t) _)
   exact CV.mk (a := .dat (.slice t) (List.take len (List.drop lo xs))) (by unfold CC; exact p) q
  ·exact h
 | _ => simpa only [settle1] using h
theorem settleL_ok {E : Env} (hl : LentOK E) : ∀ {as : List AV} {vs : List Value}, CVL E as vs → CVL E (as.map (settle1 E.H)) vs
 | [], vs, h => by simpa using h
 | a :: as, vs, h => by
  unfold CVL at h
  obtain ⟨v, us, rfl, h1, h2⟩ := h
  rw [List.map_cons]
  unfold CVL
  refine ⟨v, us, rfl, ?_, settleL_ok hl h2⟩
  rcases h1 with ⟨cs, p, q⟩ | h1
  ·have := settle1_ok hl (CV.mk p q)
   by_cases ht : (settle1 E.H a).isTop = true
   ·exact .inr ht
   ·left
    cases hq : settle1 E.H a with
    | top => rw [hq] at ht; exact absurd rfl ht
    | tup fs =>
     exfalso
     cases a with
     | row id => simp only [settle1] at hq; split at hq <;> cases hq
     | sub id lo len => simp only [settle1] at hq; split at hq <;> cases hq
     | tup fs => unfold CC at p; exact p
     | _ => simp only [settle1] at hq; cases hq
    | _ => rw [hq] at this; exact this
  ·right
   cases a <;> first | (simp [AV.isTop] at h1; done) | (simp [settle1, AV.isTop]; done)
theorem settle_ok {E : Env} (hl : LentOK E) {a : AV} {v : Value} (h : CV E a v) : CV E (settle E.H a) v := by
 cases a with
 | tup as =>
  obtain ⟨vs, e, h2⟩ := h
  exact ⟨vs, e, settleL_ok hl h2⟩
 | _ => exact settle1_ok hl h
theorem leave_ok {jump : Option Code} (hte : ∀ T te, B.cx.te T = some te → TEok B.cx.P T te) (hS : Sim B E s F Fs) (ht : Ends F.todo jump) (h : leave B.cx s jump k out = some r) : StepOK B cs0 E F Fs k out r := by
 have hround := hS.fr.round
 unfold leave at h
 split at h
 ·rename_i g hg
  rw [hg] at hround
  obtain ⟨kk, hk, hro⟩ := hround
  split at h
  ·rename_i dn jp bz fn nt rg ps x y d f cs hl hcs
   rw [hS.heap] at hl
   have hcall := hS.callers
   rw [hcs] at hcall
   obtain ⟨Fc, Fs', rfl, hfc, hfs⟩ := All2.cons_inv hcall
   obtain ⟨k', kd, st, tmps, p1, p2, p3, p4, p5, p6⟩ := hS.ok.blk _ _ hl
   rw [hk] at p1; cases p1
   have hend := run_endRound (P := B.cx.P) (w := E.m.w) jump p6
   have hW := obj_write (o' := .loop { state := if jump.isNone then .ready else .done, pending := jump, fn, tmps, params := ps.toArray, assign := x, body := y, defers := kd }) hl hk
    (b' := .loop jump.isSome jump false fn nt rg ps x y d) { sk := rfl, row := fun _ _ _ e => (by cases e), own := fun _ => Iff.rfl, loop := fun _ _ _ _ _ _ _ _ _ _ e => (by cases e; exact ⟨_, _, _, _, _, _, _, rfl⟩) } p6 (by intros; simp)
   have hs' := hS.ok.write hW ⟨kk, kd, _, tmps, hk, p2, p3, by cases jump <;> simp [loopState], p5.write hW, World.putObj_heap_same (lt_of_some p6)⟩
   have hK := write_keeps hS.ok hW
   rw [hS.heap] at h
   obtain ⟨s', q1, q2, q3⟩ := goOn_ok (s := { s with heap := _ }) (v := .bool jump.isNone) hs' rfl (hfc.keeps hK) (hfs.mono fun a b c => FrOK.keeps hK c) hS.nd.pop hS.base (CV.bool _) h
   exact .inl ⟨s', _, _, Fs', q1, q2, m_leaveRound hS.fr.mode hS.fr.kind hro ht hend, q3⟩
  ·cases h
 ·rename_i hg
  rw [hg] at hround
  simp only at hround
  have hjump : jump = none ∨ jump = some .ret := by
   split at h
   ·exact .inr rfl
   ·exact .inl rfl
   ·cases h
  have hT : F.todo = [] ∨ ∃ T, F.todo = .code .ret :: T := by
   rcases ht with ⟨ht, _⟩ | ⟨T, ht, _⟩ | ⟨T, id, ht, he, e⟩ | ⟨T, id, ht, he, e⟩
   ·exact .inl ht
   ·exact .inr ⟨T, ht⟩
   ·subst e; rcases hjump with e | e <;> cases e
   ·subst e; rcases hjump with e | e <;> cases e
  have h' : (match B.cx.P.funcs[s.fr.fn]? with
     | some fn => (match shutAll s.heap s.fr.defers with
       | some H => (match resA B.cx { s with heap := H } fn.results.toList with
         | some as => (match s.callers with
           | [] => out (tupA as) H
           | f :: cs => cond (B.cx.keep s.fr.fn) (goOn { s with heap := H } f cs (tupA as) k) (goOn { s with heap := lendA (tupA as) H } f cs (settle (lendA (tupA as) H) (tupA as)) k))
         | none => none)
       | none => none)
     | none => none) = some r := by
   rcases hjump with e | e <;> (subst e; exact h)
  clear h
  split at h'
  ·rename_i fn hfn
   split at h'
   ·rename_i H hH
    split at h'
    ·rename_i as has
     rw [hS.fr.defers.1] at hH
     simp only [shutAll, Option.some.injEq] at hH
     subst hH
     have h1 : ∀ cs : List Frame, Steps B.cx.P (lone F cs E.m.w) (lone { F with mode := .returning } cs E.m.w) := fun cs => m_leave hS.fr.mode hround hT
     have hnd0 := hS.nd
     unfold Nd at hnd0
     rw [List.flatMap_cons] at hnd0
     obtain ⟨E', q1, q2, qρ, qle, qgo, qdk, q4⟩ := shut_ok F.defers (F := { F with mode := .returning }) (cs := Fs ++ cs0) hS.ok rfl rfl (List.nodup_append.1 hnd0.1).1 (fun d hd => by
      obtain ⟨k1, e1, h1⟩ := hS.fr.defers.2 d hd
      obtain ⟨k2, e2, h2⟩ := hnd0.2 d (List.mem_append_left _ hd)
      rw [e1] at e2
      simp only [Deferred.mk.injEq, Target.collected.injEq, and_true] at e2
      subst e2
      exact ⟨k1, e1, h2, h1⟩)
     have q2 : s.heap = E'.H := by rw [q2]; exact hS.heap
     have hgo : ∀ (f : Fr) (G : Frame), G ∈ Fs → FrOK E f G → FrOK E' f G := fun f G hG c => c.to rfl (c.regs.to qle (fun j _ _ => qgo j)) (fun g _ => by rw [qρ]) (fun k hk => qdk k (fun hc => (List.nodup_append.1 hnd0.1).2.2 _ hc _ (List.mem_flatMap.2 ⟨G, hG, hk⟩) rfl))
     obtain ⟨v, q5, q6⟩ := results_ok (s := s) (F := F) q1 hte q2 (hS.fr.regs.to qle (fun j _ _ => qgo j)) has
     have hleave : ({ F with mode := .returning, defers := [] } : Frame).leaving B.cx.P E'.m.w (.returned v) := ⟨rfl, rfl, hS.fr.kind, fn, by rw [show ({ F with mode := .returning, defers := [] } : Frame).fn = s.fr.fn from hS.fr.fn]; exact hfn, q5⟩
     split at h'
     ·rename_i hcs
      have hcall := hS.callers
      rw [hcs] at hcall
      have hFs : Fs = [] := by cases hcall; rfl
      subst hFs
      exact .inr ⟨_, E', _, v, by rw [← q2]; exact h', q1, q6, rfl, (h1 _).trans q4, hleave, rfl⟩
     ·rename_i f cs hcs
      have hcall := hS.callers
      rw [hcs] at hcall
      obtain ⟨Fc, Fs', rfl, hfc, hfs⟩ := All2.cons_inv hcall
      cases hkp : B.cx.keep s.fr.fn with
      | true =>
       rw [hkp, cond_true] at h'
       obtain ⟨s', q7, q8, q9⟩ := goOn_ok (s := { s with heap := s.heap }) (v := v) q1 q2 (hgo _ _ (by simp) hfc) (hfs.monoR fun a b hb c => hgo _ _ (by simp [hb]) c) hS.nd.pop hS.base q6 h'
       exact .inl ⟨s', _, _, Fs', q7, q8, (h1 _).trans (q4.trans (.one (step_leave_returned hleave))), q9⟩
      | false =>
       rw [hkp, cond_false] at h'
       have hless : HLess (lendA (tupA as) s.heap) E'.H := by rw [← q2]; exact lendA_less _ _
       have hKl := less_keeps q1 hless
       have q1' := q1.less hless
       have q6' := settle_ok q1'.lent (hKl.cv q6)
       obtain ⟨s', q7, q8, q9⟩ := goOn_ok (s := { s with heap := lendA (tupA as) s.heap }) (v := v) q1' rfl ((hgo _ _ (by simp) hfc).keeps hKl) (hfs.monoR fun a b hb c => (hgo _ _ (by simp [hb]) c).keeps hKl) hS.nd.pop hS.base q6' h'
       exact .inl ⟨s', _, _, Fs', q7, q8, (h1 _).trans (q4.trans (.one (step_leave_returned hleave))), q9⟩
    ·cases h'
   ·cases h'
  ·cases h'
end
end Go.Gh
/- The ghost machine: control, the items one by one. Conditions: none (lemmas alone). -/
namespace Go.Gh
section
variable {R : Type} {B : Base} {E : Env} {s : Cf} {F : Frame} {Fs cs0 : List Frame} {k : Cf → Option R} {out : AV → Heap → Option R} {r : R}
theorem eval_ok (hS : Sim B E s F Fs) (x : Operand) : CV E (opA B.cx s.fr.regs x) (F.eval x) := by
 have h := opA_ok hS.ok hS.fr.regs x
 cases x <;> exact h
theorem exit_none {ρ : Nat → Option Nat} {id : Nat} : ∀ {t : List It} {T : List Item}, ItsOK ρ t T → exitIt id t = none → exitTo id T = none
 | _, _, .nil, _ => rfl
 | _, _, .cons (a := a) (b := b) (l := l) (l' := l') p q, h => by
  cases p with
  | inBlock id' =>
   simp only [exitIt] at h
   simp only [exitTo]
   split at h
   ·cases h
   ·rename_i e; rw [if_neg e]; exact exit_none q h
  | _ => simp only [exitIt] at h; simp only [exitTo]; exact exit_none q h
theorem goto_none {ρ : Nat → Option Nat} {id : Nat} : ∀ {t : List It} {T : List Item}, ItsOK ρ t T → gotoIt id t = none → gotoIn id T = none
 | _, _, .nil, _ => rfl
 | _, _, .cons (a := a) (b := b) (l := l) (l' := l') p q, h => by
  cases p with
  | inScope body =>
   simp only [gotoIt] at h
   simp only [gotoIn]
   split at h
   ·cases h
   ·rename_i e; simp only [e]; exact goto_none q h
  | _ => simp only [gotoIt] at h; simp only [gotoIn]; exact goto_none q h
theorem begin_ok {t : List It} (hS : Sim B E s F Fs) (ht : s.fr.todo = .beginRound :: t) (h : step B.cx s k out = some r) : StepOK B cs0 E F Fs k out r := by
 simp only [step, ht] at h
 obtain ⟨j, T, e, h1, h2⟩ := All2.cons_inv (by rw [← ht]; exact hS.fr.todo)
 cases h1
 split at h
 ·rename_i g hg
  have hround := hS.fr.round
  rw [hg] at hround
  obtain ⟨kk, hk, hro⟩ := hround
  split at h
  ·rename_i jp fn nt rg ps x y d hl
   rw [hS.heap] at hl
   obtain ⟨k', kd, st, tmps, p1, p2, p3, p4, p5, p6⟩ := hS.ok.blk _ _ hl
   rw [hk] at p1; cases p1
   simp only [loopState, Bool.false_eq_true, if_false] at p4
   subst p4
   have hrun := run_beginRound (P := B.cx.P) p6 rfl
   have hW := obj_write (o' := .loop { state := .busy, pending := jp, fn, tmps, params := ps.toArray, assign := x, body := y, defers := kd }) hl hk
    (b' := .loop false jp true fn nt rg ps x y d) { sk := rfl, row := fun _ _ _ e => (by cases e), own := fun _ => Iff.rfl, loop := fun _ _ _ _ _ _ _ _ _ _ e => (by cases e; exact ⟨_, _, _, _, _, _, _, rfl⟩) } p6 (by intros; simp)
   have hs' := hS.ok.write hW ⟨kk, kd, _, tmps, hk, p2, p3, by simp [loopState], p5.write hW, World.putObj_heap_same (lt_of_some p6)⟩
   have hK := write_keeps hS.ok hW
   have hf := hS.fr.keeps hK
   refine .inl ⟨_, _, { F with todo := T }, Fs, h, ⟨by rw [hS.heap]; rfl, hs', ⟨hf.fn, hf.regs, h2, hf.round, hf.defers, hf.mode, hf.kind⟩, hS.callers.mono fun a b c => FrOK.keeps hK c, hS.nd, hS.base⟩, m_begin hS.fr.mode e hro hrun, bot_todo⟩
  ·cases h
 ·cases h
theorem All2.append {α β : Type} {P : α → β → Prop} : ∀ {l : List α} {l' : List β} {m : List α} {m' : List β}, All2 P l l' → All2 P m m' → All2 P (l ++ m) (l' ++ m')
 | _, _, _, _, .nil, h => h
 | _, _, _, _, .cons p q, h => .cons p (q.append h)
theorem endRange_ok {t : List It} {g : Nat} (hS : Sim B E s F Fs) (ht : s.fr.todo = .endRangeFunc g :: t) (h : step B.cx s k out = some r) : StepOK B cs0 E F Fs k out r := by
 simp only [step, ht] at h
 obtain ⟨j, T, e, h1, h2⟩ := All2.cons_inv (by rw [← ht]; exact hS.fr.todo)
 cases h1
 rename_i kk hk
 split at h
 ·rename_i dn jp fn nt rg ps x y d hl
  rw [hS.heap] at hl
  obtain ⟨k', kd, st, tmps, p1, p2, p3, p4, p5, p6⟩ := hS.ok.blk _ _ hl
  rw [hk] at p1; cases p1
  have hst : st ≠ .busy := by
   simp only [loopState, Bool.false_eq_true, if_false] at p4
   split at p4
   ·exact p4
   ·rw [p4]; simp
  have hrun := run_endLoop (P := B.cx.P) p6 hst
  have hW := obj_write (o' := .loop { state := .exhausted, pending := jp, fn, tmps, params := ps.toArray, assign := x, body := y, defers := kd }) hl hk
   (b' := .loop true jp false fn nt rg ps x y d) { sk := rfl, row := fun _ _ _ e => (by cases e), own := fun _ => Iff.rfl, loop := fun _ _ _ _ _ _ _ _ _ _ e => (by cases e; exact ⟨_, _, _, _, _, _, _, rfl⟩) } p6 (by intros; simp)
  have hs' := hS.ok.write hW ⟨kk, kd, _, tmps, hk, p2, p3, by simp [loopState], p5.write hW, World.putObj_heap_same (lt_of_some p6)⟩
  have hK := write_keeps hS.ok hW
  have hf := hS.fr.keeps hK
  refine .inl ⟨_, _, { F with todo := (jp.map Item.code).toList ++ T }, Fs, h, ⟨by rw [hS.heap]; rfl, hs', ⟨hf.fn, hf.regs, ?_, hf.round, hf.defers, hf.mode, hf.kind⟩, hS.callers.mono fun a b c => FrOK.keeps hK c, hS.nd, hS.base⟩, m_endRange hS.fr.mode e hrun, bot_todo⟩
  show ItsOK _ ((jp.map It.code).toList ++ t) _
  refine All2.append ?_ h2
  cases jp with
  | none => exact .nil
  | some c => exact .cons (.code c) .nil
 ·cases h
theorem code_ok {t : List It} {c : Code} (hte : ∀ T te, B.cx.te T = some te → TEok B.cx.P T te) (hS : Sim B E s F Fs) (ht : s.fr.todo = .code c :: t) (h1 : ∀ id ops, c ≠ .region id ops true) (h2 : ∀ f ps a b, c ≠ .rangeFunc f ps a b)
  (h : step B.cx s k out = some r) : StepOK B cs0 E F Fs k out r := by
 simp only [step, ht] at h
 obtain ⟨j, T, e, hj, hT⟩ := All2.cons_inv (by rw [← ht]; exact hS.fr.todo)
 cases hj
 have hm := hS.fr.mode
 cases c with
 | skip => exact .todo hS hT h (m_skip hm e)
 | label l => exact .todo hS hT h (m_label hm e)
 | seq a b => exact .todo hS (.cons (.code a) (.cons (.code b) hT)) h (m_seq hm e)
 | cond x a b =>
  simp only at h
  split at h
  ·rename_i v hx
   have hv := eval_ok hS x
   rw [hx] at hv
   have hv := hv.bool_inv
   cases v with
   | true => exact .todo hS (.cons (.code a) hT) h (m_cond hm e hv)
   | false => exact .todo hS (.cons (.code b) hT) h (m_cond hm e hv)
  ·cases h
 | block l b => exact .todo hS (.cons (.code b) (.cons (.inBlock l) hT)) h (m_block hm e)
 | loop b =>
  have h3 : ItsOK E.ρ (.inLoop b :: t) (.code (.loop b) :: T) := .cons (.loop b) hT
  have h4 := StepOK.todo (cs0 := cs0) (out := out) hS h3 h
  rw [show ({ F with todo := .code (.loop b) :: T } : Frame) = F from by rw [← e]] at h4
  exact h4 (.refl _ _)
 | scope b => exact .todo hS (.cons (.code b) (.cons (.inScope b) hT)) h (m_scope hm e)
 | exit id =>
  simp only at h
  split at h
  ·rename_i t' ht'
   obtain ⟨T', h3, h4⟩ := exit_ok hT ht'
   exact .todo hS h4 h (m_exit hm e h3)
  ·rename_i ht'
   exact leave_ok hte hS (.inr (.inr (.inl ⟨T, id, e, exit_none hT ht', rfl⟩))) h
 | goto l =>
  simp only at h
  split at h
  ·rename_i t' ht'
   obtain ⟨T', h3, h4⟩ := goto_ok hT ht'
   exact .todo hS h4 h (m_goto hm e h3)
  ·rename_i ht'
   exact leave_ok hte hS (.inr (.inr (.inr ⟨T, l, e, goto_none hT ht', rfl⟩))) h
 | ret => exact leave_ok hte hS (.inr (.inl ⟨T, e, rfl⟩)) h
 | refuse w => cases h
 | region id ops d =>
  cases d with
  | true => exact absurd rfl (h1 _ _)
  | false => exact .todo hS (.cons (.inRegion ops (List.range ops.size)) hT) h (m_region hm e)
 | rangeFunc f ps a b => exact absurd rfl (h2 _ _ _ _)
theorem item_ok {t : List It} {i : It} (_ : ∀ T te, B.cx.te T = some te → TEok B.cx.P T te) (hS : Sim B E s F Fs) (ht : s.fr.todo = i :: t) (h1 : ∀ c, i ≠ .code c) (h2 : ∀ ops j l, i ≠ .inRegion ops (j :: l)) (h3 : ∀ ops lo, i ≠ .inDraw ops lo)
  (h : step B.cx s k out = some r) : StepOK B cs0 E F Fs k out r := by
 cases i with
 | code c => exact absurd rfl (h1 c)
 | beginRound => exact begin_ok hS ht h
 | endRangeFunc g => exact endRange_ok hS ht h
 | inRangeFunc g => simp only [step, ht] at h; cases h
 | inDraw ops lo => exact absurd rfl (h3 ops lo)
 | inDrawAt ops lo => simp only [step, ht] at h; cases h
 | inBlock id =>
  simp only [step, ht] at h
  obtain ⟨j, T, e, hj, hT⟩ := All2.cons_inv (by rw [← ht]; exact hS.fr.todo)
  cases hj
  exact .todo hS hT h (m_inBlock hS.fr.mode e)
 | inScope b =>
  simp only [step, ht] at h
  obtain ⟨j, T, e, hj, hT⟩ := All2.cons_inv (by rw [← ht]; exact hS.fr.todo)
  cases hj
  exact .todo hS hT h (m_inScope hS.fr.mode e)
 | inLoop b =>
  simp only [step, ht] at h
  obtain ⟨j, T, e, hj, hT⟩ := All2.cons_inv (by rw [← ht]; exact hS.fr.todo)
  cases hj with
  | inLoop => exact .todo hS (.cons (.code b) (.cons (.inLoop b) hT)) h (m_inLoop hS.fr.mode e)
  | loop => exact .todo hS (.cons (.code b) (.cons (.inLoop b) hT)) h (m_loop hS.fr.mode e)
 | inRegion ops l =>
  cases l with
  | cons j l => exact absurd rfl (h2 _ _ _)
  | nil =>
   simp only [step, ht] at h
   obtain ⟨j, T, e, hj, hT⟩ := All2.cons_inv (by rw [← ht]; exact hS.fr.todo)
   cases hj
   exact .todo hS hT h (m_regionEnd hS.fr.mode e)
theorem end_ok (hte : ∀ T te, B.cx.te T = some te → TEok B.cx.P T te) (hS : Sim B E s F Fs) (ht : s.fr.todo = []) (h : step B.cx s k out = some r) : StepOK B cs0 E F Fs k out r := by
 simp only [step, ht] at h
 have e : F.todo = [] := by have := hS.fr.todo; rw [ht] at this; cases hq : F.todo with | nil => rfl | cons a l => rw [hq] at this; cases this
 exact leave_ok hte hS (.inl ⟨e, rfl⟩) h
end
end Go.Gh
/- The ghost machine: an operation's step. Conditions: none (lemmas alone). -/
namespace Go.Gh
section
variable {R : Type} {B : Base} {E : Env} {s : Cf} {F : Frame} {Fs cs0 : List Frame} {k : Cf → Option R} {out : AV → Heap → Option R} {r : R}
theorem Sim.less {H' : Heap} (hS : Sim B E s F Fs) (h : HLess H' E.H) : Sim B (E.less B H') { s with heap := H' } F Fs :=
 ⟨rfl, hS.ok.less h, hS.fr.keeps (less_keeps hS.ok h), hS.callers.mono fun _ _ c => FrOK.keeps (less_keeps hS.ok h) c, hS.nd, hS.base⟩
theorem look_zip : ∀ (as : List AV) (a t : Nat), look ((List.range' a as.length).zip as) t = if a ≤ t then as.getD (t - a) .top else .top
 | [], a, t => by simp [look]
 | x :: as, a, t => by
  simp only [List.length_cons, List.range'_succ, List.zip_cons_cons, look]
  by_cases e : a = t
  ·subst e; simp
  ·rw [if_neg e, look_zip as (a + 1) t]
   by_cases h : a ≤ t
   ·rw [if_pos h, if_pos (by omega)]
    rw [show t - a = (t - (a + 1)) + 1 from by omega, List.getD_cons_succ]
   ·rw [if_neg h, if_neg (by omega)]
theorem CVL.len {E : Env} : ∀ {as : List AV} {vs : List Value}, CVL E as vs → vs.length = as.length
 | [], vs, h => by unfold CVL at h; simp [h]
 | a :: as, vs, h => by unfold CVL at h; obtain ⟨v, us, rfl, _, h2⟩ := h; simp [CVL.len h2]
theorem enter_regs {as : List AV} {vs : List Value} {n : Nat} (h : CVL E as vs) (hn : as.length ≤ n) : RegsOK E ((List.range as.length).zip as) n (vs.toArray ++ Array.replicate (n - vs.length) undef) := by
 have hl := CVL.len h
 refine ⟨by simp; omega, fun t => ?_⟩
 rw [List.range_eq_range', look_zip, if_pos (Nat.zero_le _), Nat.sub_zero]
 cases hq : as[t]? with
 | none => rw [List.getD, hq]; trivial
 | some a =>
  rw [List.getD, hq]
  obtain ⟨v, h1, h2⟩ := CVL.get h hq
  have ht := (List.getElem?_eq_some_iff.1 h1).1
  have : (vs.toArray ++ Array.replicate (n - vs.length) undef).getD t undef = v := by
   rw [Array.getD_eq_getD_getElem?, Array.getElem?_append_left (by simpa using ht)]
   simp [h1]
  rw [this]; exact h2
theorem enter_ok {n : FuncId} {fn : Func} {c : Code} {as : List AV} {vs : List Value} (hfn : B.cx.P.funcs[n]? = some fn) (hb : fn.body = some c) (h : CVL E as vs) (hn : as.length ≤ fn.ntmps) :
  FrOK E { fn := n, n := fn.ntmps, regs := (List.range as.length).zip as, todo := [.code c], round := none, defers := [] } (Frame.enter B.cx.P n vs.toArray .normal) := by
 have e : Frame.enter B.cx.P n vs.toArray .normal = { fn := n, tmps := vs.toArray ++ Array.replicate (fn.ntmps - vs.length) undef, todo := [.code c], defers := [], mode := .run, kind := .normal } := by
  simp [Frame.enter, hfn, hb]
 rw [e]
 exact ⟨rfl, enter_regs h hn, .cons (.code c) .nil, rfl, ⟨rfl, fun _ h => absurd h List.not_mem_nil⟩, rfl, rfl⟩
theorem enter_defers {P : Program} {n : FuncId} {vs : Array Value} : (Frame.enter P n vs .normal).defers = [] := by
 rfl
theorem zipR_ok {n : Nat} : ∀ {ps : List Nat} {as : List AV} {vs : List Value} {rg r' : Regs} {tmps : Array Value}, RegsOK E rg n tmps → CVL E as vs → zipR n ps as rg = some r' →
  RegsOK E r' n ((ps.zip vs).foldl (fun tmps (t, a) => tmps.setIfInBounds t a) tmps) ∧ vs.length = ps.length
 | [], [], vs, rg, r', tmps, hr, hv, h => by
  simp only [zipR, Option.some.injEq] at h
  subst h
  unfold CVL at hv
  subst hv
  exact ⟨hr, rfl⟩
 | p :: ps, a :: as, vs, rg, r', tmps, hr, hv, h => by
  simp only [zipR] at h
  unfold CVL at hv
  obtain ⟨v, us, rfl, h1, h2⟩ := hv
  have hc : CV E a v := by
   rcases h1 with ⟨cs, p, q⟩ | h1
   ·exact CV.mk p q
   ·cases a <;> simp [AV.isTop] at h1
    trivial
  have hp := hr.put (d := some p) hc
  obtain ⟨h3, h4⟩ := zipR_ok hp h2 h
  exact ⟨by simpa using h3, by simp [h4]⟩
 | [], _ :: _, _, _, _, _, _, _, h | _ :: _, [], _, _, _, _, _, _, h => by simp [zipR] at h
theorem wanted_none {o : Oper} {ops : Array Oper} {tmps : Array Value} (h : o.guard = none) : Region.wanted o (yielded ops tmps) = true := by simp [Region.wanted, h]
theorem wanted_some {o : Oper} {ops : Array Oper} {rg : Regs} {n : Nat} {tmps : Array Value} {j t : Nat} {want b : Bool} (hr : RegsOK E rg n tmps) (hg : o.guard = some (j, want)) (ht : (ops[j]?).bind (·.dst) = some t) (hl : look rg t = .dat .bool b) :
  Region.wanted o (yielded ops tmps) = (b == want) := by
 have h1 := hr.2 t
 rw [hl] at h1
 have h2 := h1.bool_inv
 have h3 : tmps[t]? = some (.bool b) := by
  cases hq : tmps[t]? with
  | none => rw [Array.getD_eq_getD_getElem?, hq] at h2; cases h2
  | some v => rw [Array.getD_eq_getD_getElem?, hq] at h2; simp at h2; rw [h2]
 simp [Region.wanted, hg, yielded, ht, h3]
theorem cv_undef {E : Env} : CV E (.tup []) undef := ⟨[], rfl, by unfold CVL; rfl⟩
theorem wanted_undef {o : Oper} {ops : Array Oper} {rg : Regs} {n : Nat} {tmps : Array Value} {j t : Nat} {want : Bool} (hr : RegsOK E rg n tmps) (hg : o.guard = some (j, want)) (ht : (ops[j]?).bind (·.dst) = some t) (hl : look rg t = .tup []) :
  Region.wanted o (yielded ops tmps) = false := by
 have h1 := hr.2 t
 rw [hl] at h1
 obtain ⟨vs, h2, h3⟩ := h1
 unfold CVL at h3
 subst h3
 have h3 : tmps[t]? = none ∨ tmps[t]? = some (.tuple #[]) := by
  cases hq : tmps[t]? with
  | none => exact .inl rfl
  | some v =>
   rw [Array.getD_eq_getD_getElem?, hq] at h2
   simp at h2
   exact .inr (by rw [h2])
 rcases h3 with h3 | h3 <;> simp [Region.wanted, hg, yielded, ht, h3]
theorem look_same {rg : Regs} {t u : Nat} {a : AV} (h : look rg t = a) : look ((t, a) :: rg) u = look rg u := by
 simp only [look]
 split
 ·rename_i e; subst e; exact h.symm
 ·rfl
theorem Sim.setR {t : Nat} {b : Bool} (hS : Sim B E s F Fs) (h : look s.fr.regs t = .dat .bool b) : Sim B E (setR s t b) F Fs := by
 refine ⟨hS.heap, hS.ok, ⟨hS.fr.fn, ⟨hS.fr.regs.1, fun u => ?_⟩, hS.fr.todo, hS.fr.round, hS.fr.defers, hS.fr.mode, hS.fr.kind⟩, hS.callers, hS.nd, hS.base⟩
 show CV E (look ((t, _) :: s.fr.regs) u) _
 rw [look_same h]
 exact hS.fr.regs.2 u
theorem free_no_defer {cx : Ctx} {H : Heap} {av : Operand → AV} {site : Nat} {op : Op} {g : AV → New → Option R} (h : opf cx H av site op g = some r) (c : Call) : op ≠ .defer c := by
 intro e; subst e; simp [opf] at h
theorem write_no_defer {cx : Ctx} {H : Heap} {av : Operand → AV} {site : Nat} {op : Op} {g : AV → Heap → Option R} (h : opw cx H av site op g = some r) (c : Call) : op ≠ .defer c := by
 intro e; subst e; simp [opw] at h
theorem noLoop_of {id : Nat} (hh : s.heap = E.H) (h : usesH id s.heap = false) : NoLoop E id := by
 intro i x jmp y fn n rg ps p q d hl e
 rw [← hh] at hl
 have key : ∀ (H : Heap), hlook H i = some (.loop x jmp y fn n rg ps p q d) → usesH id H = false → d ≠ id := by
  intro H
  induction H with
  | nil => intro h; simp [hlook] at h
  | cons p H ih =>
   obtain ⟨j, c⟩ := p
   intro h1 h2
   simp only [hlook] at h1
   simp only [usesH, List.any_cons, Bool.or_eq_false_iff] at h2
   split at h1
   ·cases h1
    have := h2.1
    simp only at this
    intro e
    rw [e, Nat.beq_refl] at this
    cases this
   ·exact ih h1 h2.2
 exact key _ hl h e
theorem bot_finish {v : Value} : bot (F.finish v) Fs = bot F Fs := by
 cases Fs with
 | cons _ _ => rfl
 | nil =>
  simp only [bot, Frame.finish]
  split <;> rfl
theorem callers_purge {id : Nat} {b : Blk} {w' : World} {q : Option Nat} (hs : StateOK B E) (h : BindOK B E id b w' q) : ∀ {fs : List Fr} {Fs : List Frame}, fs.any (usesF id) = false → All2 (FrOK E) fs Fs → All2 (FrOK (E.bind B id b w' q)) (fs.map (purgeF id)) Fs
 | _, _, _, .nil => .nil
 | _, _, hu, .cons p q => by
  simp only [List.any_cons, Bool.or_eq_false_iff] at hu
  exact .cons (p.bind hs h hu.1) (callers_purge hs h hu.2 q)
theorem usesS_low {id : Nat} (hb : s.base = B.base) (hu : usesS id s = false) : B.bound ≤ id := by
 simp only [usesS, Bool.or_eq_false_iff] at hu
 have h := hu.2
 rw [hb] at h
 rcases Nat.lt_or_ge id B.bound with hlt | hge
 ·rw [show Nat.blt id (B.base * 10000000) = true from Nat.ble_eq_true_of_le hlt] at h
  cases h
 ·exact hge
theorem fin_ok {E' : Env} {o : Oper} {ops : Array Oper} {i : Nat} {it nxt : It} {rest : List It} {a : AV} {v : Value} {H : Heap} (hfr : FrOK E' s.fr F) (hcs : All2 (FrOK E') s.callers Fs) (hs : StateOK B E') (hnd : Nd B (F :: Fs)) (hbase : s.base = B.base) (hH : H = E'.H) (ho : ops[i]? = some o) (ht : s.fr.todo = it :: rest) (hc : curOp it = some (ops, i, nxt)) (hv : CV E' a v) :
  Sim B E' (fin s o nxt rest a H) (F.finish v) Fs := by
 have h := hfr.finish ht hc hv
 rw [ho] at h
 exact ⟨hH, hs, h, hcs, hnd.finish, hbase⟩
theorem fin_bind {o : Oper} {ops : Array Oper} {i : Nat} {it nxt : It} {rest : List It} {a : AV} {v : Value} {id : Nat} {b : Blk} {w' : World} {q : Option Nat} {H : Heap} (hfr : FrOK E s.fr F) (hcs : All2 (FrOK E) s.callers Fs) (hs : StateOK B E) (hnd : Nd B (F :: Fs)) (hbase : s.base = B.base) (hB : BindOK B E id b w' q)
  (hu : usesS id s = false) (hu2 : NoLoop E id) (hb : BOK B (E.bind B id b w' q) id b) (hH : H = (id, b) :: purgeH id E.H) (ho : ops[i]? = some o) (ht : s.fr.todo = it :: rest) (hc : curOp it = some (ops, i, nxt)) (hv : CV (E.bind B id b w' q) a v) :
  Sim B (E.bind B id b w' q) (fin (purgeS id s) o nxt rest a H) (F.finish v) Fs := by
 have hlow := usesS_low hbase hu
 simp only [usesS, Bool.or_eq_false_iff] at hu
 have h1 := hfr.bind hs hB hu.1.1.1
 have h2 := callers_purge hs hB hu.1.1.2 hcs
 have h3 : (purgeS id s).fr.todo = it :: rest := ht
 exact fin_ok (s := purgeS id s) h1 h2 (hs.bind hB hu2 hlow hb) hnd hbase hH ho h3 hc hv
theorem memN_iff {j : Nat} : ∀ {l : List Nat}, memN j l = true ↔ j ∈ l
 | [] => by simp [memN]
 | i :: l => by
  simp only [memN, Bool.or_eq_true, memN_iff (l := l), List.mem_cons]
  constructor
  ·rintro (h | h)
   ·exact .inl (Nat.eq_of_beq_eq_true h).symm
   ·exact .inr h
  ·rintro (h | h)
   ·exact .inl (by rw [h]; exact Nat.beq_refl _)
   ·exact .inr h
theorem low_id {n j : Nat} {l : List Nat} (h : (Nat.blt j n || memN j l) = true) : j < n ∨ j ∈ l := by
 rw [Bool.or_eq_true] at h
 rcases h with h | h
 ·exact .inl (Nat.le_of_ble_eq_true h)
 ·exact .inr (memN_iff.1 h)
mutual
theorem lowA_men {n id : Nat} {l : List Nat} : (a : AV) → lowA n l a = true → men id a = true → id < n ∨ id ∈ l
 | .agg fs, h, hm => by simp only [lowA, men] at h hm; exact lowL_men fs h hm
 | .arrL fs, h, hm => by simp only [lowA, men] at h hm; exact lowL_men fs h hm
 | .tup fs, h, hm => by simp only [lowA, men] at h hm; exact lowL_men fs h hm
 | .ptr j _, h, hm => by simp only [lowA, men, beq_iff_eq] at h hm; subst hm; exact low_id h
 | .row j, h, hm => by simp only [lowA, men, beq_iff_eq] at h hm; subst hm; exact low_id h
 | .sub j _ _, h, hm => by simp only [lowA, men, beq_iff_eq] at h hm; subst hm; exact low_id h
 | .yld j, h, hm => by simp only [lowA, men, beq_iff_eq] at h hm; subst hm; exact low_id h
 | .fn _ fs cs, h, hm => by
  simp only [lowA, men, Bool.and_eq_true, Bool.or_eq_true] at h hm
  rcases hm with hm | hm
  ·exact lowL_men fs h.1 hm
  ·exact lowL_men cs h.2 hm
 | .dat _ _, _, hm | .cptr _ _, _, hm | .hp _ _ _, _, hm | .full _ _, _, hm | .hmp _ _ _, _, hm | .hm _ _ _, _, hm | .nilsl, _, hm | .nilp, _, hm | .nilf, _, hm | .nilm, _, hm | .any, _, hm | .top, _, hm => by simp [men] at hm
theorem lowL_men {n id : Nat} {l : List Nat} : (as : List AV) → lowL n l as = true → menL id as = true → id < n ∨ id ∈ l
 | [], _, hm => by simp [menL] at hm
 | a :: as, h, hm => by
  simp only [lowL, menL, Bool.and_eq_true, Bool.or_eq_true] at h hm
  rcases hm with hm | hm
  ·exact lowA_men a h.1 hm
  ·exact lowL_men as h.2 hm
end
theorem look_in : ∀ (r : Regs) (t : Nat), look r t = .top ∨ ∃ x ∈ r, x.1 = t
 | [], _ => .inl rfl
 | (u, a) :: r, t => by
  by_cases e : u = t
  ·exact .inr ⟨(u, a), by simp, e⟩
  ·simp only [look, if_neg e]
   rcases look_in r t with h | ⟨x, hx, h⟩
   ·exact .inl h
   ·exact .inr ⟨x, by simp [hx], h⟩
theorem lowR_men {n : Nat} {l : List Nat} {r : Regs} (h : (r.all fun x => lowA n l (look r x.1)) = true) {id t : Nat} (hm : men id (look r t) = true) : id < n ∨ id ∈ l := by
 rw [List.all_eq_true] at h
 rcases look_in r t with e | ⟨x, hx, e⟩
 ·rw [e] at hm; simp [men] at hm
 ·have := h x hx
  rw [e] at this
  exact lowA_men _ this hm
theorem lowF_men {n : Nat} {l : List Nat} {f : Fr} (h : lowF n l f = true) {id t : Nat} (hm : men id (look f.regs t) = true) : id < n ∨ id ∈ l := by
 simp only [lowF, Bool.and_eq_true] at h
 exact lowR_men h.1.1.1 hm
theorem lowF_uses {n : Nat} {l : List Nat} {f : Fr} (h : lowF n l f = true) {g : Nat} (hu : usesF g f = true) : g < n := by
 simp only [lowF, Bool.and_eq_true, List.all_eq_true] at h
 simp only [usesF, Bool.or_eq_true, List.any_eq_true] at hu
 rcases hu with (hu | ⟨d, hd, hu⟩) | ⟨i, hi, hu⟩
 ·cases hr : f.round with
  | none => rw [hr] at hu; cases hu
  | some g' =>
   rw [hr] at hu
   have h1 := h.1.1.2
   rw [hr] at h1
   obtain rfl := Nat.eq_of_beq_eq_true hu
   exact Nat.le_of_ble_eq_true h1
 ·have h1 := h.1.2 d hd
  obtain rfl := Nat.eq_of_beq_eq_true hu
  exact Nat.le_of_ble_eq_true h1
 ·have h1 := h.2 i hi
  cases i with
  | inRangeFunc g' => obtain rfl := Nat.eq_of_beq_eq_true hu; exact Nat.le_of_ble_eq_true h1
  | endRangeFunc g' => obtain rfl := Nat.eq_of_beq_eq_true hu; exact Nat.le_of_ble_eq_true h1
  | _ => simp [usesIt] at hu
theorem lowS_spec {b : Nat} {l : List Nat} {s : Cf} (h : lowS b l s = true) : s.base ≤ b ∧ lowF (b * 10000000) l s.fr = true ∧ ∀ f ∈ s.callers, lowF (b * 10000000) l f = true := by
 simp only [lowS, Bool.and_eq_true, List.all_eq_true] at h
 exact ⟨Nat.le_of_ble_eq_true h.1.1, h.1.2, h.2⟩
theorem lowB_men {n : Nat} {b : Blk} (h : lowB n b = true) {id : Nat} (hm : menBlk id b) : id < n := by
 have no : ∀ {p : Prop}, p ∨ id ∈ ([] : List Nat) → p := fun h => h.elim (fun h => h) (fun h => absurd h List.not_mem_nil)
 cases b with
 | box a f => exact no (lowA_men a h hm)
 | loop x jmp y fn n' r ps p q d =>
  simp only [lowB, Bool.and_eq_true] at h
  rcases hm with ⟨t, hm⟩ | rfl
  ·exact no (lowR_men h.2 hm)
  ·exact Nat.le_of_ble_eq_true h.1
 | row t xs l => exact hm.elim
 | dfr s => exact hm.elim
theorem localsOf_at {n : Nat} : ∀ (H : Heap) (out : List Nat) {id : Nat} {b : Blk}, hlook (localsOf n out H) id = some b → id ∉ out ∧ n ≤ id ∧ hlook H id = some b ∧ ∃ t x, b = .box (.dat t x) false
 | [], out, id, b, h => by unfold localsOf at h; simp [hlook] at h
 | (i, c) :: r, out, id, b, h => by
  have skip : hlook (localsOf n (i :: out) r) id = some b → id ∉ out ∧ n ≤ id ∧ hlook ((i, c) :: r) id = some b ∧ ∃ t x, b = .box (.dat t x) false := by
   intro h
   obtain ⟨h1, h2, h3, h4⟩ := localsOf_at r _ h
   simp only [List.mem_cons, not_or] at h1
   exact ⟨h1.2, h2, by simp only [hlook, if_neg (Ne.symm h1.1)]; exact h3, h4⟩
  cases c with
  | box a f =>
   cases a with
   | dat t x =>
    cases f with
    | false =>
     simp only [localsOf] at h
     cases hc : memN i out || Nat.blt i n with
     | true => rw [hc] at h; exact skip h
     | false =>
      rw [hc, cond_false] at h
      rw [Bool.or_eq_false_iff] at hc
      simp only [hlook] at h
      split at h
      ·rename_i e
       subst e
       cases h
       refine ⟨fun hm => by rw [memN_iff.2 hm] at hc; exact absurd hc.1 (by simp), ?_, by simp [hlook], t, x, rfl⟩
       rcases Nat.lt_or_ge i n with hlt | hge
       ·have : Nat.blt i n = true := Nat.ble_eq_true_of_le hlt
        rw [this] at hc; exact absurd hc.2 (by simp)
       ·exact hge
      ·exact skip h
    | true => simp only [localsOf] at h; exact skip h
   | _ => simp only [localsOf] at h; exact skip h
  | _ => simp only [localsOf] at h; exact skip h
theorem hlook_some_ids {H : Heap} {id : Nat} : id ∈ idsOf H ↔ (hlook H id).isSome = true := by
 induction H with
 | nil => simp [idsOf, hlook]
 | cons a H ih =>
  obtain ⟨i, b⟩ := a
  simp only [idsOf, List.map_cons, List.mem_cons, hlook]
  by_cases e : i = id
  ·subst e; simp
  ·rw [if_neg e, ← ih]
   constructor
   ·rintro (h | h)
    ·exact absurd h.symm e
    ·exact h
   ·exact .inr
theorem hlook_heapBut (l : List Nat) : ∀ (H : Heap) (id : Nat), hlook (heapBut l H) id = if id ∈ l then none else hlook H id
 | [], id => by simp [heapBut, hlook]
 | (i, b) :: r, id => by
  simp only [heapBut]
  cases hm : memN i l with
  | true =>
   rw [cond_true, hlook_heapBut l r id]
   have := memN_iff.1 hm
   by_cases e : i = id
   ·subst e; rw [if_pos this, if_pos this]
   ·simp only [hlook, if_neg e]
  | false =>
   rw [cond_false]
   simp only [hlook]
   by_cases e : i = id
   ·subst e
    rw [if_pos rfl, if_pos rfl, if_neg]
    intro h; rw [memN_iff.2 h] at hm; cases hm
   ·rw [if_neg e, if_neg e, hlook_heapBut l r id]
theorem hlook_append (L H : Heap) (id : Nat) : hlook (L ++ H) id = (hlook L id).or (hlook H id) := by
 induction L with
 | nil => simp [hlook]
 | cons a L ih =>
  obtain ⟨i, b⟩ := a
  simp only [List.cons_append, hlook]
  split
  ·simp
  ·exact ih
theorem subPick_mem {s c0 : Cf} {sb : Sub} : ∀ {l : List Sub}, subPick s c0 l = some sb → sb ∈ l
 | [], h => by simp [subPick] at h
 | a :: l, h => by
  simp only [subPick] at h
  cases hq : (decK a.spec { c0 with heap := heapBut (idsOf (localsOf (a.base * 10000000) [] s.heap)) s.heap, base := a.base }).isSome with
  | true => rw [hq] at h; cases h; simp
  | false => rw [hq] at h; exact List.mem_cons_of_mem _ (subPick_mem h)
theorem splitL_ok {R : Type} {f : Nat → Option R} {r : R} {j : Nat} : ∀ {l : List Nat}, splitL l j f = some r → f j = some r
 | [], h => by simp [splitL] at h
 | a :: l, h => by
  simp only [splitL] at h
  cases e : Nat.beq j a with
  | true => rw [e, cond_true] at h; rw [Nat.eq_of_beq_eq_true e]; exact h
  | false => rw [e, cond_false] at h; exact splitL_ok h
theorem splitH_ok {R : Type} {r : R} (h : List (Nat × BSh)) : ∀ {x : denH h} {k : denH h → Option R}, splitH h x k = some r → k x = some r := by
 induction h with
 | nil => intro x k h; exact h
 | cons a tl ih =>
  obtain ⟨i, b⟩ := a
  intro x k h
  cases b with
  | loopE fn n rs ps d js =>
   simp only [splitH] at h
   have h1 := splitL_ok h
   exact ih (k := fun y => k ((x.1.1, x.1.2), y)) h1
  | box a f => exact ih (k := fun y => k (x.1, y)) (by simpa only [splitH] using h)
  | row a f => exact ih (k := fun y => k (x.1, y)) (by simpa only [splitH] using h)
  | loop _ _ _ _ _ _ => exact ih (k := fun y => k (x.1, y)) (by simpa only [splitH] using h)
  | dfr _ => exact ih (k := fun y => k (x.1, y)) (by simpa only [splitH] using h)
theorem ResOK.mono {m m' : Mem} (h : m.le m') {ts : List Ty} {y : denL ts} {v : Value} (c : ResOK m ts y v) : ResOK m' ts y v := by
 obtain ⟨vs, h1, h2⟩ := c
 refine ⟨vs, ?_, h2⟩
 have : ∀ (ts : List Ty) (y : denL ts) (vs : List Value), EVL m ts y vs → EVL m' ts y vs := by
  intro ts
  induction ts with
  | nil => intro y vs h; exact h
  | cons t ts ih =>
   intro y vs h1
   obtain ⟨v, us, e, q1, q2⟩ := h1
   exact ⟨v, us, e, q1.mono h, ih _ _ q2⟩
 exact this ts y vs h1
theorem hlook_mem {H : Heap} {id : Nat} {b : Blk} (h : hlook H id = some b) : (id, b) ∈ H := by
 induction H with
 | nil => simp [hlook] at h
 | cons a H ih =>
  obtain ⟨i, c⟩ := a
  simp only [hlook] at h
  split at h
  ·rename_i e; subst e; cases h; simp
  ·exact List.mem_cons_of_mem _ (ih h)
theorem fillH_ids {id : Nat} {b : Blk} : ∀ (cs : List (Code × Code)) (h : List (Nat × BSh)) (x : denH h), (id, b) ∈ fillH cs h x → ∃ s, (id, s) ∈ h
 | _, [], _, h => by simp [fillH] at h
 | cs, (i, s) :: r, x, h => by
  simp only [fillH, List.mem_cons, Prod.mk.injEq] at h
  rcases h with ⟨rfl, _⟩ | h
  ·exact ⟨s, by simp⟩
  ·obtain ⟨s', hs'⟩ := fillH_ids cs.tail r x.2 h
   exact ⟨s', by simp [hs']⟩
def Env.but (E : Env) (L : Heap) : Env := { E with H := heapBut (idsOf L) E.H }
def Env.back (B : Base) (E E' : Env) (L : Heap) : Env :=
 let ρ := fun id => if id ∈ idsOf L then E.ρ id else E'.ρ id
 { m := { E'.m with Mut := fun k j => B.Fo k j ∨ Own ρ (L ++ E'.H) k j }, ρ, H := L ++ E'.H }
def Base.sub (B : Base) (E : Env) (L : Heap) (b : Nat) : Base := { B with base := b, E0 := E.but L, Fo := fun k j => B.Fo k j ∨ Own E.ρ L k j }
theorem but_look {L : Heap} {id : Nat} {b : Blk} (h : hlook (E.but L).H id = some b) : id ∉ idsOf L ∧ hlook E.H id = some b := by
 simp only [Env.but, hlook_heapBut] at h
 split at h
 ·cases h
 ·rename_i hn; exact ⟨hn, h⟩
theorem but_goes {L : Heap} (id : Nat) : Goes E (E.but L) id := fun b' hb' => ⟨b', (but_look hb').2, rfl, rfl, fun _ xs l e => ⟨xs, l, e, rfl⟩⟩
theorem loc_look {L : Heap} {n : Nat} (hL : L = localsOf n [] E.H) {id : Nat} {b : Blk} (h : hlook L id = some b) : n ≤ id ∧ hlook E.H id = some b ∧ ∃ t x, b = .box (.dat t x) false := by
 subst hL; exact (localsOf_at E.H [] h).2
theorem loc_id {L : Heap} {n : Nat} (hL : L = localsOf n [] E.H) {id : Nat} (h : id ∈ idsOf L) : n ≤ id ∧ ∃ b, hlook L id = some b := by
 obtain ⟨b, hb⟩ := Option.isSome_iff_exists.1 (hlook_some_ids.1 h)
 exact ⟨(loc_look hL hb).1, b, hb⟩
theorem StateOK.sub {L : Heap} {n : Nat} (hL : L = localsOf n [] E.H) (hs : StateOK B E) {b : Nat} : StateOK (B.sub E L b) (E.but L) := by
 have hinL : ∀ {id : Nat} {c : Blk}, hlook L id = some c → id ∈ idsOf L := fun h => hlook_some_ids.2 (by rw [h]; rfl)
 refine ⟨fun k j => ?_, ⟨fun k j hf => ?_, fun id c k j h1 h2 hf => ?_⟩, fun i i' b1 b2 k h1 h2 => hs.inj _ _ _ _ _ (but_look h1).2 (but_look h2).2, fun id c h => ?_, hs.memo, hs.ext, hs.reg, hs.late, fun g => ?_, hs.globm, Stays.refl _ _, hs.ext.size⟩
 ·show E.m.Mut k j ↔ _
  rw [hs.wri k j]
  constructor
  ·rintro (h | ⟨id, c, h1, h2, h3⟩)
   ·exact .inl (.inl h)
   ·by_cases hm : id ∈ idsOf L
    ·obtain ⟨_, c', hc'⟩ := loc_id hL hm
     have := (loc_look hL hc').2.1
     rw [h1] at this; cases this
     exact .inl (.inr ⟨id, c, hc', h2, h3⟩)
    ·exact .inr ⟨id, c, by simp only [Env.but, hlook_heapBut, if_neg hm]; exact h1, h2, h3⟩
  ·rintro ((h | ⟨id, c, h1, h2, h3⟩) | ⟨id, c, h1, h2, h3⟩)
   ·exact .inl h
   ·exact .inr ⟨id, c, (loc_look hL h1).2.1, h2, h3⟩
   ·exact .inr ⟨id, c, (but_look h1).2, h2, h3⟩
 ·rcases hf with hf | ⟨id, c, h1, h2, h3⟩
  ·exact Nat.lt_of_lt_of_le (hs.fo.1 _ _ hf) hs.since.grow
  ·exact ((hs.blk _ _ (loc_look hL h1).2.1).lt h2).2
 ·obtain ⟨hn, h1⟩ := but_look h1
  rcases hf with hf | ⟨id', c', h3, h4, h5⟩
  ·exact hs.fo.2 _ _ _ _ h1 h2 hf
  ·have := hs.inj _ _ _ _ _ h1 (loc_look hL h3).2.1 h2 h4
   subst this
   exact hn (hinL h3)
 ·have h0 : BOK (B.sub E L b) E id c := hs.blk id c (but_look h).2
  exact BOK.to (B := B.sub E L b) (E := E) (E' := E.but L) (Mem.le.refl E.m) (fun j _ => but_goes j) (fun _ _ _ _ _ _ _ _ _ _ _ => rfl) rfl (fun _ _ => rfl) h0
 ·have h0 := hs.glob g
  exact CV.to (E := E) (E' := E.but L) (Mem.le.refl _) (fun j _ => but_goes j) h0
theorem back_ok {L : Heap} {n b : Nat} {E' : Env} (hL : L = localsOf n [] E.H) (hs : StateOK B E) (hn : n = b * 10000000) (hb : B.bound ≤ n) (h' : StateOK (B.sub E L b) E') (hlow : ∀ id c, hlook E'.H id = some c → id < n ∧ lowB n c = true) :
  StateOK B (Env.back B E E' L) ∧ E'.m.le (Env.back B E E' L).m ∧ ∀ f F, lowF n (idsOf L) f = true → FrOK E f F → FrOK (Env.back B E E' L) f F := by
 generalize hE2 : Env.back B E E' L = E2
 have e2m : E2.m.w = E'.m.w := by rw [← hE2]; rfl
 have e2M : E2.m.M = E'.m.M := by rw [← hE2]; rfl
 have lk : ∀ id, hlook E2.H id = (hlook L id).or (hlook E'.H id) := fun id => by rw [← hE2]; exact hlook_append L E'.H id
 have hinL : ∀ {id : Nat} {c : Blk}, hlook L id = some c → id ∈ idsOf L := fun h => hlook_some_ids.2 (by rw [h]; rfl)
 have noL : ∀ {id : Nat}, id ∉ idsOf L → hlook L id = none := fun {id} h => by
  cases hq : hlook L id with
  | none => rfl
  | some c => exact absurd (hinL hq) h
 have rL : ∀ {id : Nat}, id ∈ idsOf L → E2.ρ id = E.ρ id := fun {id} h => by rw [← hE2]; exact if_pos h
 have rN : ∀ {id : Nat}, id ∉ idsOf L → E2.ρ id = E'.ρ id := fun {id} h => by rw [← hE2]; exact if_neg h
 have ltN : ∀ {id : Nat}, id < n → id ∉ idsOf L := fun h hm => by have := (loc_id hL hm).1; omega
 have lkN : ∀ {id : Nat}, id ∉ idsOf L → hlook E2.H id = hlook E'.H id := fun h => by rw [lk, noL h]; rfl
 have lkL : ∀ {id : Nat} {c : Blk}, hlook L id = some c → hlook E2.H id = some c := fun h => by rw [lk, h]; rfl
 have blks : ∀ {id : Nat} {c : Blk}, hlook E2.H id = some c → (id ∈ idsOf L ∧ hlook L id = some c ∧ hlook E.H id = some c ∧ E2.ρ id = E.ρ id ∧ ∃ t x, c = .box (.dat t x) false) ∨ (id < n ∧ id ∉ idsOf L ∧ hlook E'.H id = some c ∧ E2.ρ id = E'.ρ id) := by
  intro id c h
  rw [lk] at h
  cases hq : hlook L id with
  | some c' =>
   rw [hq] at h
   cases h
   have := loc_look hL hq
   exact .inl ⟨hinL hq, rfl, this.2.1, rL (hinL hq), this.2.2⟩
  | none =>
   rw [hq] at h
   simp only [Option.none_or] at h
   have h3 := (hlow _ _ h).1
   exact .inr ⟨h3, ltN h3, h, rN (ltN h3)⟩
 have wri2 : ∀ k j, E2.m.Mut k j ↔ B.Fo k j ∨ Own E2.ρ E2.H k j := fun k j => by rw [← hE2]; exact Iff.rfl
 have mutiff : ∀ k j, E2.m.Mut k j ↔ E'.m.Mut k j := by
  intro k j
  rw [wri2, h'.wri]
  constructor
  ·rintro (h | ⟨id, c, h1, h2, h3⟩)
   ·exact .inl (.inl h)
   ·rcases blks h1 with ⟨_, p1, _, p2, _⟩ | ⟨_, _, p1, p2⟩
    ·exact .inl (.inr ⟨id, c, p1, by rw [← p2]; exact h2, h3⟩)
    ·exact .inr ⟨id, c, p1, by rw [← p2]; exact h2, h3⟩
  ·rintro ((h | ⟨id, c, h1, h2, h3⟩) | ⟨id, c, h1, h2, h3⟩)
   ·exact .inl h
   ·exact .inr ⟨id, c, lkL h1, by rw [rL (hinL h1)]; exact h2, h3⟩
   ·have h4 := ltN (hlow _ _ h1).1
    exact .inr ⟨id, c, by rw [lkN h4]; exact h1, by rw [rN h4]; exact h2, h3⟩
 have cellEq : ∀ k j, E2.m.cell k j = E'.m.cell k j := fun k j => by simp only [Mem.cell, e2m]
 have hle2 : E'.m.le E2.m := ⟨fun k j v hc hm => ⟨by rw [cellEq]; exact hc, fun h => hm ((mutiff k j).1 h)⟩, fun k x hk => by rw [e2M]; exact hk, fun k x hk => by rw [e2m]; exact hk⟩
 have hle1 : E.m.le E'.m := h'.since.le
 have hle : E.m.le E2.m := hle1.trans hle2
 have gLt : ∀ id, id < n → Goes E' E2 id := fun id h b' hb' => by
  rw [lkN (ltN h)] at hb'
  exact ⟨b', hb', rN (ltN h), rfl, fun _ xs l e => ⟨xs, l, e, rfl⟩⟩
 have gE : ∀ id, id < n → Goes E E2 id := fun id h => ((but_goes (L := L) id).trans (h'.since.goes id (by rw [show (B.sub E L b).bound = b * 10000000 from rfl, ← hn]; exact h))).trans (gLt id h)
 have gLoc : ∀ id, id ∈ idsOf L → Goes E E2 id := fun id h b' hb' => by
  rcases blks hb' with ⟨_, _, p1, p2, _⟩ | ⟨_, p1, _⟩
  ·exact ⟨b', p1, p2, rfl, fun _ xs l e => ⟨xs, l, e, rfl⟩⟩
  ·exact absurd h p1
 have hst : Stays B.bound E E2 := by
  refine ⟨hle, fun id h => gE id (by omega), fun id h => ?_, fun id c h hc => ?_, fun k hk => by rw [e2m]; exact h'.since.dk k hk, by rw [e2m]; exact h'.since.grow, fun k hk hi => ?_⟩
  ·rw [rN (ltN (by omega))]
   exact h'.since.rho id (by rw [show (B.sub E L b).bound = b * 10000000 from rfl, ← hn]; omega)
  ·have h1 : codesAt E'.H id = some c := by
    unfold codesAt at hc ⊢
    rw [lkN (ltN (by omega))] at hc
    exact hc
   have h2 := h'.since.codes id c (by rw [show (B.sub E L b).bound = b * 10000000 from rfl, ← hn]; omega) h1
   obtain ⟨x, jmp, y, fn, n', r, ps, d, hl⟩ := codesAt_of h2
   exact codesAt_eq (but_look hl).2
  ·have hi1 : Idle (E.but L) k := fun id c h1 h2 => hi _ _ (but_look h1).2 h2
   obtain ⟨q1, q2⟩ := h'.since.idle k hk hi1
   refine ⟨fun id c h1 h2 => ?_, fun o ho hm => by rw [e2m]; exact q2 o ho hm⟩
   rcases blks h1 with ⟨_, _, p1, p2, _⟩ | ⟨_, _, p1, p2⟩
   ·rw [p2] at h2; exact hi _ _ p1 h2
   ·rw [p2] at h2; exact q1 _ _ p1 h2
 have apart : ∀ {id id' : Nat} {c c' : Blk} {k : Nat}, hlook L id = some c → hlook E'.H id' = some c' → E.ρ id = some k → E'.ρ id' = some k → False := by
  intro id id' c c' k h1 h2 h3 h4
  obtain ⟨_, _, t, x, rfl⟩ := loc_look hL h1
  exact h'.fo.2 _ _ k 0 h2 h4 (.inr ⟨id, _, h1, h3, rfl⟩)
 have hok : StateOK B E2 := by
  refine ⟨wri2, ⟨hs.fo.1, fun id c k j h1 h2 hf => ?_⟩, fun i i' b1 b2 k h1 h2 h3 h4 => ?_, fun id c h => ?_, ?_, ?_, fun k x hk => by rw [e2M]; exact h'.reg k x hk, fun k x hk h0 => ?_, fun g => ?_, hs.globm, hs.since.trans hst, hs.size0⟩
  ·rcases blks h1 with ⟨_, _, p1, p2, _⟩ | ⟨_, _, p1, p2⟩
   ·rw [p2] at h2; exact hs.fo.2 _ _ _ _ p1 h2 hf
   ·rw [p2] at h2; exact h'.fo.2 _ _ k j p1 h2 (.inl hf)
  ·rcases blks h1 with ⟨_, p0, p1, p2, _⟩ | ⟨_, _, p1, p2⟩
   ·rcases blks h2 with ⟨_, q0, q1, q2, _⟩ | ⟨_, _, q1, q2⟩
    ·rw [p2] at h3; rw [q2] at h4; exact hs.inj _ _ _ _ _ p1 q1 h3 h4
    ·rw [p2] at h3; rw [q2] at h4; exact (apart p0 q1 h3 h4).elim
   ·rcases blks h2 with ⟨_, q0, q1, q2, _⟩ | ⟨_, _, q1, q2⟩
    ·rw [p2] at h3; rw [q2] at h4; exact (apart q0 p1 h4 h3).elim
    ·rw [p2] at h3; rw [q2] at h4; exact h'.inj _ _ _ _ _ p1 q1 h3 h4
  ·rcases blks h with ⟨p, p0, p1, p2, t, x, rfl⟩ | ⟨p0, _, p1, p2⟩
   ·obtain ⟨k, arr, e, r1, r2, r3, r4⟩ := hs.blk _ _ p1
    have hi1 : Idle (E.but L) k := fun id' c h1 h2 => by
     obtain ⟨hnm, h1⟩ := but_look h1
     have := hs.inj _ _ _ _ _ h1 p1 h2 r1
     subst this
     exact hnm p
    have hk : k < E.m.w.heap.size := lt_of_some r3
    refine ⟨k, arr, e, by rw [p2]; exact r1, r2, ?_, ?_⟩
    ·rw [e2m]
     exact (h'.since.idle k hk hi1).2 _ r3 (by intros; simp)
    ·unfold CC at r4 ⊢
     exact Enc.mono hle t r4
   ·have h0 : BOK B E' id c := h'.blk id c p1
    exact h0.to hle2 (fun j hj => gLt j (lowB_men (hlow _ _ p1).2 hj)) (fun x jmp y fn n' r ps p q d e => by subst e; exact rN (ltN (lowB_men (hlow _ _ p1).2 (.inr rfl)))) p2 (fun k _ => by rw [e2m])
  ·exact MemoOK.to (B := B) hle2 e2M (fun km x _ => by rw [e2m]) h'.memo
  ·have := h'.ext
   exact ⟨by rw [e2m]; exact this.size, by rw [e2m]; exact this.os, by rw [e2m]; exact this.tape, by rw [e2m]; exact this.output, fun k hk => by rw [e2m]; exact this.same k hk⟩
  ·exact h'.late k x (by rw [← e2M]; exact hk) h0
  ·exact CV.to hle (fun j hj => by rw [hs.globm] at hj; cases hj) (hs.glob g)
 refine ⟨hok, hle2, fun f F hf hF => ?_⟩
 refine hF.to rfl (hF.regs.to hle fun id t hm => ?_) (fun g hg => ?_) (fun k _ hk => by rw [e2m]; exact h'.since.dk k hk)
 ·rcases lowF_men hf hm with h | h
  ·exact gE id h
  ·exact gLoc id h
 ·have h := lowF_uses hf hg
  rw [rN (ltN h)]
  exact h'.since.rho g (by rw [show (B.sub E L b).bound = b * 10000000 from rfl, ← hn]; exact h)
theorem Sim.world {w' : World} {M' : Nat → Option (Nat × Sigma den)} (hS : Sim B E s F Fs) (hW : WorldOK B E w' M') : Sim B (E.world w' M') s F Fs := by
 have hK : Keeps E (E.world w' M') := ⟨world_le hS.ok hW, world_goes, rfl, world_dkeep hS.ok hW⟩
 exact ⟨hS.heap, hS.ok.world hW, hS.fr.keeps hK, hS.callers.mono fun _ _ c => FrOK.keeps hK c, hS.nd, hS.base⟩
mutual
theorem purgeA_comm (i j : Nat) : ∀ a : AV, purgeA i (purgeA j a) = purgeA j (purgeA i a)
 | .agg fs | .arrL fs | .tup fs => by simp only [purgeA, purgeL_comm i j fs]
 | .fn f fs cs => by simp only [purgeA, purgeL_comm i j fs, purgeL_comm i j cs]
 | .ptr k p | .row k | .yld k => by
  by_cases h1 : k = i <;> by_cases h2 : k = j <;> simp [purgeA, h1, h2] <;> (try split) <;> simp_all [purgeA]
 | .sub k a b => by
  by_cases h1 : k = i <;> by_cases h2 : k = j <;> simp [purgeA, h1, h2] <;> (try split) <;> simp_all [purgeA]
 | .dat _ _ | .hp _ _ _ | .hmp _ _ _ | .hm _ _ _ | .cptr _ _ | .nilf | .nilp | .nilsl | .nilm | .any | .top | .full _ _ => by simp only [purgeA]
theorem purgeL_comm (i j : Nat) : ∀ l : List AV, purgeL i (purgeL j l) = purgeL j (purgeL i l)
 | [] => rfl
 | a :: as => by simp only [purgeL, purgeA_comm i j a, purgeL_comm i j as]
end
theorem purgeR_comm (i j : Nat) : ∀ r : Regs, purgeR i (purgeR j r) = purgeR j (purgeR i r)
 | [] => rfl
 | (t, a) :: r => by simp only [purgeR, purgeA_comm i j a, purgeR_comm i j r]
theorem purgeB_comm (i j : Nat) (b : Blk) : purgeB i (purgeB j b) = purgeB j (purgeB i b) := by
 cases b <;> simp only [purgeB, purgeA_comm i j, purgeR_comm i j]
theorem purgeH_comm (i j : Nat) : ∀ H : Heap, purgeH i (purgeH j H) = purgeH j (purgeH i H)
 | [] => rfl
 | (k, b) :: r => by
  have ih := purgeH_comm i j r
  by_cases h1 : k = i <;> by_cases h2 : k = j <;> simp only [purgeH, h1, h2, if_true, if_false, ih, purgeB_comm i j b]
  all_goals (split <;> simp_all [purgeH])
theorem purgeF_comm (i j : Nat) (f : Fr) : purgeF i (purgeF j f) = purgeF j (purgeF i f) := by
 simp only [purgeF, purgeR_comm i j]
def partW (w w' : World) (n : Nat) : World := { w with heap := w.heap ++ w'.heap.extract w.heap.size n }
theorem partW_size {w w' : World} {n : Nat} (h1 : w.heap.size ≤ n) (h2 : n ≤ w'.heap.size) : (partW w w' n).heap.size = n := by
 show (w.heap ++ w'.heap.extract w.heap.size n).size = _
 rw [Array.size_append, Array.size_extract]
 omega
theorem partW_low {w w' : World} {n k : Nat} (hk : k < w.heap.size) : (partW w w' n).heap[k]? = w.heap[k]? := by
 show (w.heap ++ w'.heap.extract w.heap.size n)[k]? = _
 rw [Array.getElem?_append, if_pos hk]
theorem partW_high {w w' : World} {n k : Nat} (h2 : n ≤ w'.heap.size) (hk : w.heap.size ≤ k) (hn : k < n) : (partW w w' n).heap[k]? = w'.heap[k]? := by
 show (w.heap ++ w'.heap.extract w.heap.size n)[k]? = _
 rw [Array.getElem?_append, if_neg (by omega), Array.getElem?_extract]
 rw [if_pos (by omega), show w.heap.size + (k - w.heap.size) = k by omega]
theorem partW_part {w w' : World} {n n' k : Nat} (_ : w.heap.size ≤ n) (h1 : n ≤ n') (h2 : n' ≤ w'.heap.size) (hk : k < n) : (partW w w' n').heap[k]? = (partW w w' n).heap[k]? := by
 by_cases h : k < w.heap.size
 ·rw [partW_low h, partW_low h]
 ·rw [partW_high h2 (by omega) (by omega), partW_high (by omega) (by omega) hk]
theorem bind_row {E1 : Env} (hs : StateOK B E1) {w1 : World} (hsize : E1.m.w.heap.size ≤ w1.heap.size) (s1 : ∀ k, k < E1.m.w.heap.size → w1.heap[k]? = E1.m.w.heap[k]?)
  (h1 : w1.os = E1.m.w.os) (h2 : w1.tape = E1.m.w.tape) (h3 : w1.output = E1.m.w.output) (id : Nat) {t : Ty} {xs : List (den t)} {v : Value} {q : Option Nat} (hq : RowQ E1.m.w.heap.size w1 (.slice t) xs v q) :
  BindOK B E1 id (.row t xs false) w1 q ∧ BOK B (E1.bind B id (.row t xs false) w1 q) id (.row t xs false) ∧ CV (E1.bind B id (.row t xs false) w1 q) (.row id) v := by
 have mk : (∀ k, q = some k → E1.m.w.heap.size ≤ k) → BindOK B E1 id (.row t xs false) w1 q := fun hq => by
  refine ⟨hsize, h1, h2, h3, fun k' j' v' hc' _ => ?_, fun k' x' hx' => ?_, fun k' hk' _ => s1 k' hk', fun k' hk' => .inl (hq k' hk'), fun k' j' hk' _ => .inl (hq k' hk')⟩
  ·have := cell_lt hc'
   rw [← hc']; exact cell_block (s1 k' this) j'
  ·have := shape_lt hx'
   rw [← hx']; exact shape_block (s1 k' this)
 rcases hq with ⟨rfl, hnil, a, rfl⟩ | ⟨k0, cap, arr, el, es, rfl, rfl, hcap, hk0, hheap, hars, hrows, hpre⟩
 ·refine ⟨mk (fun _ h => by cases h), .inl ⟨upd_same, hnil⟩, CV.of1 ?_ rfl⟩
  unfold CC
  refine ⟨_, rfl, rfl, fun t' ys l' hl => ?_⟩
  rw [hlook_bind_same] at hl
  cases hl
  exact .inl ⟨upd_same, hnil, a, rfl⟩
 ·refine ⟨mk (fun k' hk' => by cases hk'; exact hk0), .inr ⟨k0, arr, el, es, upd_same, Nat.le_trans hs.ext.size hk0, hheap, hrows _, hpre⟩, CV.of1 ?_ rfl⟩
  unfold CC
  refine ⟨_, rfl, rfl, fun t' ys l' hl => ?_⟩
  rw [hlook_bind_same] at hl
  cases hl
  refine .inr ⟨k0, cap, el, upd_same, rfl, hcap, ?_⟩
  show w1.shape? k0 = _
  simp only [World.shape?, hheap, hars]
theorem RowQ.world {n n' : Nat} {w w1 : World} {t : Ty} {xs : den t} {v : Value} {q : Option Nat} (h : RowQ n w t xs v q) (hw : ∀ k, q = some k → n ≤ k → w1.heap[k]? = w.heap[k]? ∧ n' ≤ k) : RowQ n' w1 t xs v q := by
 cases t with
 | slice t =>
  rcases h with h | ⟨k0, cap, arr, el, es, rfl, h1, hcap, hk0, hheap, h2⟩
  ·exact .inl h
  ·obtain ⟨a, b⟩ := hw k0 rfl hk0
   exact .inr ⟨k0, cap, arr, el, es, rfl, h1, hcap, b, a.trans hheap, h2⟩
 | _ => exact h
theorem RowQ.lt {n : Nat} {w : World} {t : Ty} {xs : den t} {v : Value} {q : Option Nat} {k : Nat} (h : RowQ n w t xs v q) (hk : q = some k) : n ≤ k ∧ k < w.heap.size := by
 cases t with
 | slice t =>
  rcases h with ⟨rfl, _⟩ | ⟨k0, cap, arr, el, es, rfl, h1, hcap, hk0, hheap, h2⟩
  ·cases hk
  ·cases hk; exact ⟨hk0, lt_of_some hheap⟩
 | _ => exact h.elim
theorem noLoop_less {H : Heap} {id : Nat} (hS : Sim B E s F Fs) (hless : HLess H E.H) (hu : usesS id s = false) : NoLoop (E.less B H) id := by
 intro i x jmp y fn n rg ps p q d hl
 obtain ⟨b, hb1, hb2⟩ := hless i _ hl
 cases hb2
 exact noLoop_of hS.heap (by simp only [usesS, Bool.or_eq_false_iff] at hu; exact hu.1.2) _ _ _ _ _ _ _ _ _ _ _ hb1
theorem world_call {E1 E2 : Env} {w' : World} {M' : Nat → Option (Nat × Sigma den)} (hs1 : StateOK B E1) (hM : E2.m.M = E1.m.M) (hsz : E2.m.w.heap.size = w'.heap.size) (ho : E2.m.w.os = E1.m.w.os) (ht : E2.m.w.tape = E1.m.w.tape) (hout : E2.m.w.output = E1.m.w.output)
  (s1 : ∀ k, k < E1.m.w.heap.size → E2.m.w.heap[k]? = E1.m.w.heap[k]?) (s2 : ∀ k, E1.m.w.heap.size ≤ k → E2.m.w.heap[k]? = w'.heap[k]?)
  (q2 : Ext E1.m.w w' E1.m.M) (q3 : ∀ k z, E1.m.M k = some z → M' k = some z) (q4 : ∀ k z, M' k = some z → E1.m.M k = none → E1.m.w.heap.size ≤ k) (q5 : ∀ Mut2, MemoFine B.cx ⟨w', Mut2, M'⟩) : WorldOK B E2 w' M' := by
 refine ⟨Nat.le_of_eq hsz, q2.os.trans ho.symm, q2.tape.trans ht.symm, q2.output.trans hout.symm, fun k' hk' => ?_, fun k z h => q3 k z (by rw [← hM]; exact h), fun k' z hz h0 => ?_, fun km i' t' y' hk' => q5 _ km i' t' y' hk'⟩
 ·by_cases h1 : k' < E1.m.w.heap.size
  ·rcases q2.same k' h1 with h2 | h2
   ·exact .inl (h2.trans (s1 k' h1).symm)
   ·rw [hM]; exact .inr h2
  ·exact .inl (s2 k' (by omega)).symm
 ·cases hm' : E1.m.M k' with
  | none => have := q4 k' z hz hm'; have := hs1.ext.size; omega
  | some z' => exact hs1.late k' z' hm' h0
section
variable {o : Oper} {ops : Array Oper} {i : Nat} {it nxt : It} {rest : List It} {E1 : Env} {w' : World} {M' : Nat → Option (Nat × Sigma den)} {v : Value}
theorem fresh_one {id : Nat} {t : Ty} {ts : List Ty} {x : List (den t)} {y : denL ts} {v1 : Value} {us : List Value} {q : Option Nat}
  (hS1 : Sim B E1 { s with heap := E1.H } F Fs) (ht : s.fr.todo = it :: rest) (hc : curOp it = some (ops, i, nxt)) (ho : ops[i]? = some o) (hnl : ∀ i, usesS i s = false → NoLoop E1 i)
  (hrow : RowQ E1.m.w.heap.size w' (.slice t) x v1 q) (hplain : ∀ m2, EVL m2 ts y us) (hvu : if h : (v1 :: us).length = 1 then v = (v1 :: us)[0] else v = .tuple (v1 :: us).toArray)
  (q2 : Ext E1.m.w w' E1.m.M) (q3 : ∀ k z, E1.m.M k = some z → M' k = some z) (q4 : ∀ k z, M' k = some z → E1.m.M k = none → E1.m.w.heap.size ≤ k) (q5 : ∀ Mut2, MemoFine B.cx ⟨w', Mut2, M'⟩)
  (h : freGo s o nxt rest k E1.H id (tupA (.row id :: datAVs ts y)) (.row t x false) = some r) :
  ∃ s' E', k s' = some r ∧ Sim B E' s' (F.finish v) Fs ∧ E'.m.w = w' := by
 unfold freGo at h
 cases hu : usesS id s with
 | true => rw [hu] at h; cases h
 | false =>
  rw [hu, cond_false] at h
  have hsize := q2.size
  have hsz := partW_size (w := E1.m.w) (w' := w') hsize (Nat.le_refl _)
  have s1 : ∀ k, k < E1.m.w.heap.size → (partW E1.m.w w' w'.heap.size).heap[k]? = E1.m.w.heap[k]? := fun k hk => partW_low hk
  have s2 : ∀ k, E1.m.w.heap.size ≤ k → (partW E1.m.w w' w'.heap.size).heap[k]? = w'.heap[k]? := fun k hk => by
   by_cases h1 : k < w'.heap.size
   ·exact partW_high (Nat.le_refl _) hk h1
   ·rw [Array.getElem?_eq_none (by rw [hsz]; omega), Array.getElem?_eq_none (by omega)]
  obtain ⟨hB, hb, hrv⟩ := bind_row hS1.ok (w1 := partW E1.m.w w' w'.heap.size) (by rw [hsz]; exact hsize) s1 rfl rfl rfl id (hrow.world (fun k _ hk => ⟨s2 k hk, hk⟩))
  have hvr : CV (E1.bind B id (.row t x false) (partW E1.m.w w' w'.heap.size) q) (tupA (.row id :: datAVs ts y)) v := by
   have hlen := (hplain E1.m).len
   match ts, y, us, hplain, hlen, hvu, hrv with
   | [], y, [], _, _, hvu, hrv =>
    have : v = v1 := by simpa using hvu
    rw [this]
    exact hrv
   | t1 :: ts, y, u1 :: us2, hplain, _, hvu, hrv =>
    have : v = .tuple (v1 :: u1 :: us2).toArray := by simpa using hvu
    show CV _ (.tup (.row id :: datAVs (t1 :: ts) y)) v
    refine ⟨v1 :: u1 :: us2, this, ?_⟩
    unfold CVL
    exact ⟨v1, _, rfl, .inl (hrv.cells (by simp [skA])), EVL_CVL (hplain _)⟩
  have hsim := fin_bind (s := s) (it := it) (ops := ops) (i := i) (rest := rest) (nxt := nxt) hS1.fr hS1.callers hS1.ok hS1.nd hS1.base hB hu (hnl _ hu) hb rfl ho ht hc hvr
  exact ⟨_, _, h, hsim.world (world_call hS1.ok rfl hsz rfl rfl rfl s1 s2 q2 q3 q4 q5), rfl⟩
theorem usesS_purgeT {j id : Nat} : usesS j (purgeS id s) = true → usesS j s = true := by
 simp only [usesS, Bool.or_eq_true, purgeS]
 intro h
 rcases h with ((h | h) | h) | h
 ·exact .inl (.inl (.inl h))
 ·refine .inl (.inl (.inr ?_))
  rw [List.any_eq_true] at h ⊢
  obtain ⟨f, hf, h2⟩ := h
  obtain ⟨g, hg, rfl⟩ := List.mem_map.1 hf
  exact ⟨g, hg, h2⟩
 ·refine .inl (.inr ?_)
  have key : ∀ H : Heap, usesH j (purgeH id H) = true → usesH j H = true := by
   intro H
   induction H with
   | nil => intro h; exact h
   | cons x H ih =>
    intro h
    obtain ⟨n, b⟩ := x
    simp only [usesH, List.any_cons, Bool.or_eq_true] at ih ⊢
    simp only [purgeH] at h
    split at h
    ·exact .inr (ih h)
    ·simp only [usesH, List.any_cons, Bool.or_eq_true] at h
     rcases h with h | h
     ·left
      cases b <;> exact h
     ·exact .inr (ih h)
  exact key _ h
 ·exact .inr h
theorem fresh_seq {ida idb : Nat} {ta tb : Ty} {xa : List (den ta)} {xb : List (den tb)} {va vb : Value} {qa qb : Option Nat} {a : AV} {H' : Heap}
  (hS1 : Sim B E1 { s with heap := E1.H } F Fs) (ht : s.fr.todo = it :: rest) (hc : curOp it = some (ops, i, nxt)) (ho : ops[i]? = some o) (hnl : ∀ i, usesS i s = false → NoLoop E1 i)
  (hua : usesS ida s = false) (hub : usesS idb s = false) (hne : ida ≠ idb)
  (ha : RowQ E1.m.w.heap.size w' (.slice ta) xa va qa) (hb : RowQ E1.m.w.heap.size w' (.slice tb) xb vb qb) (hlt : ∀ ka kb, qa = some ka → qb = some kb → ka < kb)
  (q2 : Ext E1.m.w w' E1.m.M) (q3 : ∀ k z, E1.m.M k = some z → M' k = some z) (q4 : ∀ k z, M' k = some z → E1.m.M k = none → E1.m.w.heap.size ≤ k) (q5 : ∀ Mut2, MemoFine B.cx ⟨w', Mut2, M'⟩)
  (hv : ∀ E', CV E' (.row ida) va → CV E' (.row idb) vb → CV E' a v) (hH : HLess H' ((idb, .row tb xb false) :: (ida, .row ta xa false) :: purgeH idb (purgeH ida E1.H))) :
  ∃ E', Sim B E' (fin (purgeS idb (purgeS ida s)) o nxt rest a H') (F.finish v) Fs ∧ E'.m.w = w' := by
 have hsize := q2.size
 obtain ⟨n, hn1, hn2, hna, hnb⟩ : ∃ n, E1.m.w.heap.size ≤ n ∧ n ≤ w'.heap.size ∧ (∀ k, qa = some k → k < n) ∧ (∀ k, qb = some k → n ≤ k) := by
  cases hqa : qa with
  | none => exact ⟨E1.m.w.heap.size, Nat.le_refl _, hsize, fun _ h => by (cases h), fun k h => (hb.lt h).1⟩
  | some ka => exact ⟨ka + 1, by have := (ha.lt hqa).1; omega, (ha.lt hqa).2, fun k h => by (cases h; omega), fun k h => hlt ka k hqa h⟩
 have z1 := partW_size (w := E1.m.w) (w' := w') hn1 hn2
 have z2 := partW_size (w := E1.m.w) (w' := w') hsize (Nat.le_refl _)
 obtain ⟨a1, a2, a3⟩ := bind_row hS1.ok (w1 := partW E1.m.w w' n) (by rw [z1]; exact hn1) (fun k hk => partW_low hk) rfl rfl rfl ida (ha.world (fun k hq hk => ⟨partW_high hn2 hk (hna k hq), hk⟩))
 have hu' := hua
 simp only [usesS, Bool.or_eq_false_iff] at hu'
 have hfr2 := hS1.fr.bind hS1.ok a1 hu'.1.1.1
 have hcs2 := callers_purge hS1.ok a1 hu'.1.1.2 hS1.callers
 have hok2 := hS1.ok.bind a1 (hnl _ hua) (usesS_low (s := s) hS1.base hua) a2
 have hnl2 : NoLoop (E1.bind B ida (.row ta xa false) (partW E1.m.w w' n) qa) idb := by
  intro j x jmp y fn m rg ps p q d hl
  by_cases e : ida = j
  ·subst e
   rw [hlook_bind_same] at hl
   cases hl
  ·rw [hlook_bind_other e] at hl
   cases hl0 : hlook E1.H j with
   | none => rw [hl0] at hl; cases hl
   | some b0 =>
    rw [hl0] at hl
    simp only [Option.map_some, Option.some.injEq] at hl
    cases b0 <;> simp only [purgeB] at hl <;> try cases hl
    exact hnl _ hub _ _ _ _ _ _ _ _ _ _ _ hl0
 have hub2 : usesS idb (purgeS ida s) = false := by
  cases hq : usesS idb (purgeS ida s) with
  | false => rfl
  | true => rw [usesS_purgeT hq] at hub; cases hub
 obtain ⟨b1, b2, b3⟩ := bind_row hok2 (w1 := partW E1.m.w w' w'.heap.size) (by rw [z2]; show (partW E1.m.w w' n).heap.size ≤ _; rw [z1]; exact hn2) (fun k hk => partW_part hn1 hn2 (Nat.le_refl _) (by rw [← z1]; exact hk)) rfl rfl rfl idb
  (hb.world (fun k hq hk => ⟨partW_high (Nat.le_refl _) hk (hb.lt hq).2, by show (partW E1.m.w w' n).heap.size ≤ k; rw [z1]; exact hnb k hq⟩))
 have a4 := a3.bind hok2 b1
 rw [show purgeA idb (.row ida) = .row ida by simp [purgeA, hne]] at a4
 have hsim := fin_bind (s := purgeS ida s) (it := it) (ops := ops) (i := i) (rest := rest) (nxt := nxt) hfr2 hcs2 hok2 hS1.nd hS1.base b1 hub2 hnl2 b2 rfl ho ht hc (hv _ a4 b3)
 have hsim2 := hsim.less (H' := H') (by
  refine hH.trans ?_
  show HLess _ ((idb, .row tb xb false) :: purgeH idb ((ida, .row ta xa false) :: purgeH ida E1.H))
  simp only [purgeH, if_neg hne, purgeB]
  exact HLess.refl _)
 have s1 : ∀ k, k < E1.m.w.heap.size → (partW E1.m.w w' w'.heap.size).heap[k]? = E1.m.w.heap[k]? := fun k hk => partW_low hk
 have s2 : ∀ k, E1.m.w.heap.size ≤ k → (partW E1.m.w w' w'.heap.size).heap[k]? = w'.heap[k]? := fun k hk => by
  by_cases h1 : k < w'.heap.size
  ·exact partW_high (Nat.le_refl _) hk h1
  ·rw [Array.getElem?_eq_none (by rw [z2]; omega), Array.getElem?_eq_none (by omega)]
 exact ⟨_, hsim2.world (world_call hS1.ok rfl z2 rfl rfl rfl s1 s2 q2 q3 q4 q5), rfl⟩
end
theorem fresh_ok {o : Oper} {ops : Array Oper} {i : Nat} {it nxt : It} {rest : List It} {f : Operand} {args : Array Operand} {tys : Array TypeId} {fs cs : List AV} {n id id2 : Nat} {ca cr : List Ty} {cf : denL ca → Option (denL cr)} {x : denL ca}
  (hcx : CtxOK' B.cx) (hS : Sim B E s F Fs) (ht : s.fr.todo = it :: rest) (hc : curOp it = some (ops, i, nxt)) (ho : ops[i]? = some o)
  (hop : o.op = .call { callee := .value f, args, argTypes := tys }) (hav : opA B.cx s.fr.regs f = .fn n fs cs) (hcon : B.cx.fcon n = some ⟨ca, cr, cf⟩)
  (hx : toDatL (lendOp B.cx s.fr.regs o.op s.heap) ca (fs ++ args.toList.map (fun x => argA (opA B.cx s.fr.regs x)) ++ cs) = some x)
  (h : Option.bind (cf x) (fun y => freK cr y id id2 (fun a b b2 => match b2 with
      | none => freGo s o nxt rest k (lendOp B.cx s.fr.regs o.op s.heap) id a b
      | some b2 => freGo2 s o nxt rest k (lendOp B.cx s.fr.regs o.op s.heap) id id2 a b b2)) = some r)
  (hm : ∀ v w', Does B.cx.P o F.eval E.m.w F (Fs ++ cs0) v w' → Steps B.cx.P (lone F (Fs ++ cs0) E.m.w) (lone (F.finish v) (Fs ++ cs0) w')) : StepOK B cs0 E F Fs k out r := by
 have hless : HLess (lendOp B.cx s.fr.regs o.op s.heap) E.H := by rw [← hS.heap]; exact lendL_less _ _
 have hS1 := hS.less hless
 cases hy : cf x with
 | none => rw [hy] at h; cases h
 | some y =>
  rw [hy, Option.bind_some] at h
  obtain ⟨hfc, fn, hfn, hname, hbody⟩ := hcx.fcon n _ hcon
  have hf := eval_ok hS1 f
  rw [show opA B.cx s.fr.regs f = _ from hav] at hf
  have hf1 := hf.one rfl (by simp [skA])
  unfold CC at hf1
  obtain ⟨vs, ws, e, hfs, hcs⟩ := hf1
  have hv := (List.cons.inj e).1
  have hargs : CVL (E.less B (lendOp B.cx s.fr.regs o.op s.heap)) (fs ++ args.toList.map (fun x => argA (opA B.cx s.fr.regs x)) ++ cs) (vs ++ args.toList.map F.eval ++ ws) := (hfs.append (CVL.map _ (fun x _ => eval_ok hS1 x))).append hcs
  have hcalls := hfc (E.less B (lendOp B.cx s.fr.regs o.op s.heap)).m x y _ hy (toDatL_EVL hS1.ok.lent hargs hx) (mut_lt hS1.ok) (memo_lt hS1.ok) (glob_ok hS1.ok) (memo_fine hS1.ok)
  obtain ⟨e', w', fr, hR, hcomes, _, hleave⟩ := hcalls (F :: (Fs ++ cs0))
  obtain ⟨v, M', us, rfl, hF, hvu, q2, q3, q4, q5⟩ := hR
  have hdo : Does B.cx.P o F.eval E.m.w F (Fs ++ cs0) v w' := by
   refine .inr (.inr ⟨n, _, ?_, fr, hcomes, hleave⟩)
   have hargv : vs.toArray ++ args.map F.eval ++ ws.toArray = (vs ++ args.toList.map F.eval ++ ws).toArray := by
    have : args.map F.eval = (args.toList.map F.eval).toArray := by rw [← Array.toList_map, Array.toArray_toList]
    rw [this]; simp
   simp only [execOp, hop, resolve, hv, Deferred.ofValue, Sem.run_bind, Sem.run_pure, Result.andThen_ok, invoke, callFunc, run_program, hfn, hbody, beq_iff_eq, hname, if_false, Bool.false_eq_true, hargv]
  have hst := hm _ _ hdo
  have hF : FreshL (E.less B (lendOp B.cx s.fr.regs o.op s.heap)).m.w.heap.size w' cr y us := hF
  generalize hE1 : E.less B (lendOp B.cx s.fr.regs o.op s.heap) = E1 at *
  have hH1 : E1.H = lendOp B.cx s.fr.regs o.op s.heap := by rw [← hE1]; rfl
  have hnl : ∀ i, usesS i s = false → NoLoop E1 i := fun i hu => by rw [← hE1]; exact noLoop_less hS hless hu
  rw [← hH1] at h hS1
  clear hcalls hfc hy hcon
  have hgo : ∀ {s' : Cf} {E' : Env}, k s' = some r → Sim B E' s' (F.finish v) Fs → E'.m.w = w' → StepOK B cs0 E F Fs k out r := fun hk hsim hw => .inl ⟨_, _, _, Fs, hk, hsim, by rw [hw]; exact hst, bot_finish⟩
  match cr, y, h, hF with
  | [], _, h, _ => simp [freK] at h
  | [.slice t], y, h, hF | .slice t :: .int _ :: _, y, h, hF | .slice t :: .bool :: _, y, h, hF | .slice t :: .str :: _, y, h, hF | .slice t :: .struct _ :: _, y, h, hF | .slice t :: .arr _ _ :: _, y, h, hF | .slice t :: .hnd _ _ :: _, y, h, hF =>
   simp only [freK] at h
   obtain ⟨v1, us2, q, rfl, hrow, hplain⟩ := hF
   obtain ⟨s', E', g1, g2, g3⟩ := fresh_one hS1 ht hc ho hnl hrow hplain hvu q2 q3 q4 q5 h
   exact hgo g1 g2 g3
  | .slice t :: .slice u :: ts, y, h, hF =>
   simp only [freK] at h
   obtain ⟨v1, v2, us2, qa, qb, rfl, ha, hb, hab, hplain⟩ := hF
   unfold freGo2 at h
   cases hq : (usesS id s || usesS id2 s || Nat.beq id id2) with
   | true => rw [hq] at h; cases h
   | false =>
    rw [hq, cond_false] at h
    simp only [Bool.or_eq_false_iff] at hq
    obtain ⟨⟨hu1, hu2⟩, hu3⟩ := hq
    have hne : id ≠ id2 := fun e => by rw [e, Nat.beq_refl] at hu3; cases hu3
    have hvt : v = .tuple (v1 :: v2 :: us2).toArray := by simpa using hvu
    have hv : ∀ E', CV E' (.row id) v1 → CV E' (.row id2) v2 → CV E' (.tup (.row id :: .row id2 :: datAVs ts y.2.2)) v := fun E' p1 p2 => by
     refine ⟨v1 :: v2 :: us2, hvt, ?_⟩
     unfold CVL
     refine ⟨v1, _, rfl, .inl (p1.cells (by simp [skA])), ?_⟩
     unfold CVL
     exact ⟨v2, _, rfl, .inl (p2.cells (by simp [skA])), EVL_CVL (hplain _)⟩
    by_cases hlt : ∀ ka kb, qa = some ka → qb = some kb → ka < kb
    ·obtain ⟨E', g2, g3⟩ := fresh_seq hS1 ht hc ho hnl hu1 hu2 hne ha hb hlt q2 q3 q4 q5 hv (HLess.refl _)
     exact hgo h g2 g3
    ·have hlt' : ∀ kb ka, qb = some kb → qa = some ka → kb < ka := fun kb ka h1 h2 => by
      rcases Nat.lt_trichotomy ka kb with h3 | h3 | h3
      ·exact absurd (fun ka' kb' h4 h5 => by rw [h2] at h4; rw [h1] at h5; cases h4; cases h5; exact h3) hlt
      ·subst h3; exact absurd h1 (hab _ h2)
      ·exact h3
     have hless2 : HLess ((id2, .row u y.2.1 false) :: (id, .row t y.1 false) :: purgeH id2 (purgeH id E1.H)) ((id, .row t y.1 false) :: (id2, .row u y.2.1 false) :: purgeH id (purgeH id2 E1.H)) := by
      intro j b' hj
      refine ⟨b', ?_, .refl _⟩
      rw [purgeH_comm id id2]
      simp only [hlook] at hj ⊢
      by_cases e1 : id2 = j
      ·rw [if_pos e1] at hj
       rw [if_neg (fun e => hne (e.trans e1.symm)), if_pos e1]
       exact hj
      ·rw [if_neg e1] at hj ⊢
       exact hj
     obtain ⟨E', g2, g3⟩ := fresh_seq hS1 ht hc ho hnl hu2 hu1 (Ne.symm hne) hb ha hlt' q2 q3 q4 q5 (fun E' p1 p2 => hv E' p2 p1) hless2
     have hcm : fin (purgeS id (purgeS id2 s)) o nxt rest (.tup (.row id :: .row id2 :: datAVs ts y.2.2)) ((id2, .row u y.2.1 false) :: (id, .row t y.1 false) :: purgeH id2 (purgeH id E1.H)) = fin (purgeS id2 (purgeS id s)) o nxt rest (.tup (.row id :: .row id2 :: datAVs ts y.2.2)) ((id2, .row u y.2.1 false) :: (id, .row t y.1 false) :: purgeH id2 (purgeH id E1.H)) := by
      have hl : ∀ l : List Fr, (l.map (purgeF id2)).map (purgeF id) = (l.map (purgeF id)).map (purgeF id2) := fun l => by
       simp only [List.map_map]
       exact List.map_congr_left fun f _ => purgeF_comm id id2 f
      simp only [fin, purgeS, purgeF_comm id id2, hl]
     rw [hcm] at g2
     exact hgo h g2 g3
  | .int _ :: _, _, h, _ | .bool :: _, _, h, _ | .str :: _, _, h, _ | .struct _ :: _, _, h, _ | .arr _ _ :: _, _, h, _ | .hnd _ _ :: _, _, h, _ => simp [freK] at h
theorem operGo_ok {o : Oper} {ops : Array Oper} {i : Nat} {it nxt : It} {rest : List It} (hcx : CtxOK' B.cx) (hS : Sim B E s F Fs) (ht : s.fr.todo = it :: rest) (hc : curOp it = some (ops, i, nxt)) (ho : ops[i]? = some o) (hw : Region.wanted o (yielded ops F.tmps) = true)
  (h : operGo B.cx s o nxt rest k = some r) : StepOK B cs0 E F Fs k out r := by
 have hc' := hc
 obtain ⟨j, T, e, hj, hT⟩ := All2.cons_inv (by rw [← ht]; exact hS.fr.todo)
 obtain ⟨is, rfl, _⟩ := curOp_ok hj hc
 have hm := hS.fr.mode
 unfold operGo at h
 split at h
 ·-- a round
  rename_i g as hy
  unfold yldOf at hy
  split at hy
  ·rename_i f args tys hop
   split at hy
   ·rename_i g' hav
    simp only [Option.some.injEq, Prod.mk.injEq] at hy
    obtain ⟨rfl, rfl⟩ := hy
    split at h
    ·rename_i dn jp bz fn nt rg ps x y d hl
     split at h
     ·rename_i r' hz
      rw [hS.heap] at hl
      obtain ⟨kk, kd, st, tmps, p1, p2, p3, p4, p5, p6⟩ := hS.ok.blk _ _ hl
      have hf := eval_ok hS f
      rw [hav] at hf
      have hf := hf.one rfl (by simp [skA])
      unfold CC at hf
      obtain ⟨u, e1, _, hv⟩ := hf
      obtain ⟨k', hk', hu⟩ := hv _ hl
      rw [p1] at hk'; cases hk'
      have hvf : F.eval f = .func (.yield kk) #[] #[] := by rw [(List.cons.inj e1).1, hu]
      have hargs : CVL E (args.toList.map fun x => argA (opA B.cx s.fr.regs x)) (args.toList.map F.eval) := CVL.map _ (fun x _ => eval_ok hS x)
      obtain ⟨q1, q2⟩ := zipR_ok p5 hargs hz
      have hrun := run_yield (P := B.cx.P) (args := args.map F.eval) p6 (by have := q2; simp at this; simp [this])
      have hexec : (execOp F.eval o).run B.cx.P E.m.w = .ok (.round kk fn ((ps.toArray.zip (args.map F.eval)).foldl (fun tmps (t, a) => tmps.setIfInBounds t a) tmps) x y) E.m.w := by
       simp only [execOp, hop, resolve, hvf, Deferred.ofValue, Sem.run_bind, Sem.run_pure, Result.andThen_ok, invoke, Array.empty_append]
       exact hrun
      have hzip : (ps.toArray.zip (args.map F.eval)) = (ps.zip (args.toList.map F.eval)).toArray := by
       apply Array.ext'; simp [Array.toList_zip]
      rw [hzip, List.foldl_toArray] at hexec
      have hst := m_yield (cs := Fs ++ cs0) hm e ho hw (fun c hc => by rw [hop] at hc; cases hc) hexec
      refine .inl ⟨_, E, _, F :: Fs, h, ⟨hS.heap, hS.ok, ?_, .cons hS.fr hS.callers, hS.nd.push rfl, hS.base⟩, hst, rfl⟩
      exact ⟨rfl, q1, .cons (.code _) (.cons .beginRound (.cons (.code _) .nil)), ⟨kk, p1, rfl⟩, ⟨rfl, fun _ h => absurd h List.not_mem_nil⟩, rfl, rfl⟩
     ·cases h
    ·cases h
   ·cases hy
  ·cases hy
 ·split at h
  ·-- a call of a function without a contract
   rename_i hy n as hi
   unfold inlOf at hi
   split at hi
   ·rename_i f args tys hop
    split at hi
    ·rename_i n' fs cs hav
     split at hi
     ·cases hi
     ·simp only [Option.some.injEq, Prod.mk.injEq] at hi
      obtain ⟨rfl, rfl⟩ := hi
      split at h
      ·rename_i fn hfn
       split at h
       ·rename_i c hc
        cases hcond : B.cx.inl n' && Nat.ble (fs ++ args.toList.map (fun x => argA (opA B.cx s.fr.regs x)) ++ cs).length fn.ntmps with
        | false => rw [hcond] at h; cases h
        | true =>
         rw [hcond, cond_true] at h
         simp only [Bool.and_eq_true, Nat.ble_eq] at hcond
         have hf := eval_ok hS f
         rw [hav] at hf
         have hf := hf.one rfl (by simp [skA])
         unfold CC at hf
         obtain ⟨vs, ws, e1, hfs, hcs⟩ := hf
         have hv := (List.cons.inj e1).1
         have hargs : CVL E (fs ++ args.toList.map (fun x => argA (opA B.cx s.fr.regs x)) ++ cs) (vs ++ args.toList.map F.eval ++ ws) := (hfs.append (CVL.map _ (fun x _ => eval_ok hS x))).append hcs
         have hname := hcx.inl _ _ hcond.1 hfn
         have hexec : (execOp F.eval o).run B.cx.P E.m.w = .ok (.enter n' (vs ++ args.toList.map F.eval ++ ws).toArray) E.m.w := by
          have hargv : vs.toArray ++ args.map F.eval ++ ws.toArray = (vs ++ args.toList.map F.eval ++ ws).toArray := by
           have : args.map F.eval = (args.toList.map F.eval).toArray := by rw [← Array.toList_map, Array.toArray_toList]
           rw [this]; simp
          simp only [execOp, hop, resolve, hv, Deferred.ofValue, Sem.run_bind, Sem.run_pure, Result.andThen_ok, invoke, callFunc, run_program, hfn, hc, Option.isNone_some, beq_iff_eq, hname, if_false, Bool.false_eq_true, hargv]
         have hent := enter_ok (B := B) hfn hc hargs hcond.2
         split at h
         ·have hst := m_enter (cs := Fs ++ cs0) hm e ho hw (fun c hc => by rw [hop] at hc; cases hc) hexec
          exact .inl ⟨_, E, _, F :: Fs, h, ⟨hS.heap, hS.ok, hent, .cons hS.fr hS.callers, hS.nd.push enter_defers, hS.base⟩, hst, rfl⟩
         ·-- a closure that is told by what it does to the heap
          rename_i sb0 sbl hsubs
          split at h
          case h_2 => cases h
          rename_i sb hpick
          have hsub : sb ∈ B.cx.sub n' := by rw [hsubs]; exact subPick_mem hpick
          unfold subCall at h
          simp only at h
          generalize hL : localsOf (sb.base * 10000000) [] s.heap = L at h
          cases hlow : lowS sb.base (idsOf L) s && sb.outH.all (fun x => Nat.blt x.1 (sb.base * 10000000)) with
          | false => rw [hlow] at h; cases h
          | true =>
           rw [hlow, cond_true] at h
           rw [Bool.and_eq_true] at hlow
           obtain ⟨hlow, hout⟩ := hlow
           split at h
           ·rename_i x hx
            generalize hc0 : ({ fr := { fn := n', n := fn.ntmps, regs := (List.range (fs ++ args.toList.map (fun x => argA (opA B.cx s.fr.regs x)) ++ cs).length).zip (fs ++ args.toList.map (fun x => argA (opA B.cx s.fr.regs x)) ++ cs), todo := [.code c], round := none, defers := [] }, callers := [], heap := heapBut (idsOf L) s.heap, base := sb.base } : Cf) = c0 at h hx
            cases hy : sb.f (keptOf sb.spec c0).cs x with
            | none => rw [hy] at h; cases h
            | some y =>
             rw [hy, Option.bind_some] at h
             have h := splitH_ok _ h
             have hheap : heapBut (idsOf L) s.heap = c0.heap := by subst hc0; rfl
             rw [hheap] at h
             have hL' : L = localsOf (sb.base * 10000000) [] E.H := by rw [← hL, hS.heap]
             cases hfill : (fillH (sb.outH.map (codesOf c0.heap)) sb.outH y.2).all (fun x => lowB (sb.base * 10000000) x.2) with
             | false => rw [hfill] at h; cases h
             | true =>
              rw [hfill, cond_true] at h
              have hent' : FrOK (E.but L) { fn := n', n := fn.ntmps, regs := (List.range (fs ++ args.toList.map (fun x => argA (opA B.cx s.fr.regs x)) ++ cs).length).zip (fs ++ args.toList.map (fun x => argA (opA B.cx s.fr.regs x)) ++ cs), todo := [.code c], round := none, defers := [] } (Frame.enter B.cx.P n' (vs ++ args.toList.map F.eval ++ ws).toArray .normal) :=
               FrOK.to (E := E) (E' := E.but L) rfl (RegsOK.to (E := E) (E' := E.but L) (Mem.le.refl E.m) (fun id _ _ => but_goes id) hent.regs) (fun _ _ => rfl) (fun _ _ h => h) hent
              have hS' : Sim (B.sub E L sb.base) (E.but L) c0 (Frame.enter B.cx.P n' (vs ++ args.toList.map F.eval ++ ws).toArray .normal) [] := by
               subst hc0
               exact ⟨by show heapBut _ s.heap = heapBut _ E.H; rw [hS.heap], hS.ok.sub hL', hent', .nil, Nd.push enter_defers ⟨.nil, fun _ h => absurd h List.not_mem_nil⟩, rfl⟩
              obtain ⟨E', F', v, q1, q2, q3, q4, q5, _⟩ := hcx.sub n' sb hsub (B.sub E L sb.base) (E.but L) c0 _ (F :: (Fs ++ cs0)) x y rfl rfl rfl rfl rfl hS' (by subst hc0; rfl) (by subst hc0; rfl) ⟨fn, c, hfn, hc, by subst hc0; rfl⟩ hout hx hy
              obtain ⟨l1, l2, l3⟩ := lowS_spec hlow
              rw [List.all_eq_true] at hfill hout
              have hlow' : ∀ id b, hlook E'.H id = some b → id < sb.base * 10000000 ∧ lowB (sb.base * 10000000) b = true := by
               intro id b hb
               rw [q2] at hb
               have hmem := hlook_mem hb
               refine ⟨?_, hfill _ hmem⟩
               obtain ⟨bs, hbs⟩ := fillH_ids _ _ _ hmem
               exact Nat.le_of_ble_eq_true (hout _ hbs)
              obtain ⟨r1, r2, r3⟩ := back_ok hL' hS.ok rfl (Nat.mul_le_mul_right _ (by rw [← hS.base]; exact l1)) q1 hlow'
              have hst := m_does (cs := Fs ++ cs0) hm e ho hw (fun c hc => by rw [hop] at hc; cases hc) (.inr (.inr ⟨n', _, hexec, F', q4, q5⟩))
              exact .inl ⟨_, Env.back B E E' L, _, Fs, h, fin_ok (r3 _ _ l2 hS.fr) (hS.callers.mono' fun a b ha hb => r3 _ _ (l3 a ha) hb) r1 hS.nd hS.base (by show L ++ _ = L ++ E'.H; rw [q2]) ho ht hc' (ResOK_CV (q3.mono r2)), hst, bot_finish⟩
           ·cases h
       ·cases h
      ·cases h
    ·cases hi
   ·cases hi
  ·split at h
   ·-- a call whose first result is the caller's own
    rename_i n' c as hfr
    unfold freOf at hfr
    split at hfr
    ·rename_i f args tys hop
     split at hfr
     ·rename_i n2 fs cs hav
      split at hfr
      ·rename_i c2 hcon
       simp only [Option.some.injEq, Prod.mk.injEq] at hfr
       obtain ⟨rfl, rfl, rfl⟩ := hfr
       split at h
       ·rename_i x hx
        obtain ⟨ca, cr, cf⟩ := c2
        exact fresh_ok (ops := ops) (i := i) hcx hS ht hc' ho hop hav hcon hx h (fun v w' hdo => m_does (cs := Fs ++ cs0) hm e ho hw (fun c hc => by rw [hop] at hc; cases hc) hdo)
       ·cases h
      ·cases hfr
     ·cases hfr
    ·cases hfr
   ·-- any other operation
    have hless : HLess (lendOp B.cx s.fr.regs o.op s.heap) E.H := by rw [← hS.heap]; exact lendL_less _ _
    have hS1 := hS.less hless
    have hK1 := less_keeps hS.ok hless
    have hw1 : (E.less B (lendOp B.cx s.fr.regs o.op s.heap)).m.w = E.m.w := rfl
    split at h
    ·have hd : ∀ c, o.op ≠ .defer c := free_no_defer h
     obtain ⟨a, new, hg, hfree⟩ := opf_ok (o := o) (ρ := F.eval) (F := F) (CS := Fs ++ cs0) hS1.ok hcx.toCtxOK (fun x _ => eval_ok hS1 x) h
     rcases hfree with ⟨rfl, v, w', M', hdo, hW, hv⟩ | ⟨z, rfl, rfl, arr, el, hdo, hz⟩
     ·have hKw : Keeps (E.less B (lendOp B.cx s.fr.regs o.op s.heap)) ((E.less B (lendOp B.cx s.fr.regs o.op s.heap)).world w' M') := ⟨world_le hS1.ok hW, world_goes, rfl, world_dkeep hS1.ok hW⟩
      have hst := m_does (cs := Fs ++ cs0) hm e ho hw hd hdo
      exact .inl ⟨_, _, _, Fs, hg, fin_ok (hS1.fr.keeps hKw) (hS1.callers.mono fun _ _ c => FrOK.keeps hKw c) (hS1.ok.world hW) hS.nd hS.base rfl ho ht hc hv, hst, bot_finish⟩
     ·simp only at hg
      cases hu : usesS (siteOf s o) s with
      | true => rw [hu] at hg; cases hg
      | false =>
       rw [hu, cond_false] at hg
       have hnl : NoLoop (E.less B (lendOp B.cx s.fr.regs o.op s.heap)) (siteOf s o) := by
        have h0 : NoLoop E (siteOf s o) := noLoop_of hS.heap (by simp only [usesS, Bool.or_eq_false_iff] at hu; exact hu.1.2)
        intro i x jmp y fn n rg ps p q d hl
        obtain ⟨b, hb1, hb2⟩ := hless i _ hl
        cases hb2
        exact h0 _ _ _ _ _ _ _ _ _ _ _ hb1
       have hsame : ∀ kk, kk < E.m.w.heap.size → (E.m.w.heap.push (.cells arr el (0, 0)))[kk]? = E.m.w.heap[kk]? := fun kk hk => by rw [Array.getElem?_push, if_neg (by omega)]
       have hB : BindOK B (E.less B (lendOp B.cx s.fr.regs o.op s.heap)) (siteOf s o) (purgeB (siteOf s o) (.box z false)) { E.m.w with heap := E.m.w.heap.push (.cells arr el (0, 0)) } (some E.m.w.heap.size) := by
        refine ⟨by simp [Env.less], rfl, rfl, rfl, fun k' j' v' hc _ => ?_, fun k' x hx => ?_, fun k' hk' _ => hsame k' hk', fun k' hk' => ?_, fun k' j' hk' _ => ?_⟩
        ·have := cell_lt hc
         rw [← hc]; exact cell_block (hsame k' this) j'
        ·have := shape_lt hx
         rw [← hx]; exact shape_block (hsame k' this)
        ·cases hk'; exact .inl (Nat.le_refl _)
        ·cases hk'; exact .inl (Nat.le_refl _)
       have hb : BOK B ((E.less B (lendOp B.cx s.fr.regs o.op s.heap)).bind B (siteOf s o) (purgeB (siteOf s o) (.box z false)) { E.m.w with heap := E.m.w.heap.push (.cells arr el (0, 0)) } (some E.m.w.heap.size)) (siteOf s o) (purgeB (siteOf s o) (.box z false)) := by
        refine ⟨E.m.w.heap.size, arr, el, upd_same, hS.ok.ext.size, ?_, CC.bind hS1.ok hB hz⟩
        show (E.m.w.heap.push (.cells arr el (0, 0)))[E.m.w.heap.size]? = _
        simp
       have hv : CV ((E.less B (lendOp B.cx s.fr.regs o.op s.heap)).bind B (siteOf s o) (purgeB (siteOf s o) (.box z false)) { E.m.w with heap := E.m.w.heap.push (.cells arr el (0, 0)) } (some E.m.w.heap.size)) (.ptr (siteOf s o) []) (.pointer (some ⟨E.m.w.heap.size, 0, none⟩)) := by
        refine CV.of1 ?_ rfl
        unfold CC
        exact ⟨_, rfl, rfl, fun b _ => ⟨_, upd_same, by simp [offK]⟩⟩
       have hst := m_does (cs := Fs ++ cs0) hm e ho hw hd hdo
       exact .inl ⟨_, _, _, Fs, hg, fin_bind hS1.fr hS1.callers hS1.ok hS.nd hS.base hB hu hnl hb rfl ho ht hc hv, hst, bot_finish⟩
    ·have hd : ∀ c, o.op ≠ .defer c := write_no_defer h
     obtain ⟨a, H', hg, hwr⟩ := opw_ok (o := o) (ρ := F.eval) (F := F) (CS := Fs ++ cs0) hS1.ok hcx.toCtxOKb (fun x _ => eval_ok hS1 x) h
     rcases hwr with ⟨v, E', hdo, hs', hH', hK, hv, hnr⟩ | ⟨v, w', id, b, q, rfl, rfl, hdo, hB, hb, hv⟩
     ·have hst := m_does (cs := Fs ++ cs0) hm e ho hw hd hdo
      have hg' : k (fin s o nxt rest a H') = some r := by
       cases a <;> first | exact hg | exact absurd rfl (hnr _)
      exact .inl ⟨_, E', _, Fs, hg', fin_ok (hS1.fr.keeps hK) (hS1.callers.mono fun _ _ c => FrOK.keeps hK c) hs' hS.nd hS.base hH'.symm ho ht hc hv, hst, bot_finish⟩
     ·simp only at hg
      cases hu : usesS id s with
      | true => rw [hu] at hg; cases hg
      | false =>
       rw [hu, cond_false] at hg
       have hnl : NoLoop (E.less B (lendOp B.cx s.fr.regs o.op s.heap)) id := by
        have h0 : NoLoop E id := noLoop_of hS.heap (by simp only [usesS, Bool.or_eq_false_iff] at hu; exact hu.1.2)
        intro i x jmp y fn n rg ps p q d hl
        obtain ⟨b, hb1, hb2⟩ := hless i _ hl
        cases hb2
        exact h0 _ _ _ _ _ _ _ _ _ _ _ hb1
       have hst := m_does (cs := Fs ++ cs0) hm e ho hw hd hdo
       exact .inl ⟨_, _, _, Fs, hg, fin_bind hS1.fr hS1.callers hS1.ok hS.nd hS.base hB hu hnl hb rfl ho ht hc hv, hst, bot_finish⟩
theorem oper_ok {ops : Array Oper} {i : Nat} {it nxt : It} {rest : List It} (hcx : CtxOK' B.cx) (hS : Sim B E s F Fs) (ht : s.fr.todo = it :: rest) (hc : curOp it = some (ops, i, nxt)) (h : oper B.cx s ops i nxt rest k = some r) : StepOK B cs0 E F Fs k out r := by
 obtain ⟨j, T, e, hj, hT⟩ := All2.cons_inv (by rw [← ht]; exact hS.fr.todo)
 obtain ⟨is, rfl, _⟩ := curOp_ok hj hc
 unfold oper at h
 split at h
 ·cases h
 ·rename_i o ho
  split at h
  ·rename_i hg
   exact operGo_ok hcx hS ht hc ho (wanted_none hg) h
  ·rename_i j want hg
   split at h
   ·cases h
   ·rename_i t htt
    split at h
    ·rename_i b hl
     have hw := wanted_some hS.fr.regs hg htt hl
     have hS' := hS.setR hl
     have skip : ∀ b' : Bool, b' = b → k (fin (setR s t b') o nxt rest (.tup []) s.heap) = some r → Region.wanted o (yielded ops F.tmps) = false → StepOK B cs0 E F Fs k out r := by
      intro b' eb hk hwn
      subst eb
      exact .inl ⟨_, E, _, Fs, hk, fin_ok hS'.fr hS'.callers hS'.ok hS.nd hS.base hS.heap ho ht hc (v := undef) cv_undef, m_unwanted hS.fr.mode e ho hwn, bot_finish⟩
     cases b with
     | true =>
      cases want with
      | true => simp only [cond_true] at h; exact operGo_ok hcx hS' ht hc ho (by rw [hw]; rfl) h
      | false => simp only [cond_true, cond_false] at h; exact skip true rfl h (by rw [hw]; rfl)
     | false =>
      cases want with
      | true => simp only [cond_true, cond_false] at h; exact skip false rfl h (by rw [hw]; rfl)
      | false => simp only [cond_false] at h; exact operGo_ok hcx hS' ht hc ho (by rw [hw]; rfl) h
    ·rename_i hl
     exact .inl ⟨_, E, _, Fs, h, fin_ok hS.fr hS.callers hS.ok hS.nd hS.base hS.heap ho ht hc (v := undef) cv_undef, m_unwanted hS.fr.mode e ho (wanted_undef hS.fr.regs hg htt hl), bot_finish⟩
    ·cases h
end
end Go.Gh
/- The ghost machine: a handle's new map. Conditions: none (lemmas alone). -/
namespace Go.Gh
theorem findM_spec {cx : Ctx} {M : TypeId} : ∀ {n h : Nat} {x : Nat × Memo}, findM cx M n h = some x → cx.memo x.1 = some x.2
 | 0, _, _, e => by simp [findM] at e
 | n + 1, h, x, e => by
  simp only [findM] at e
  split at e
  ·rename_i mm hm
   split at e
   ·cases e; exact hm
   ·exact findM_spec e
  ·exact findM_spec e
section
variable {R : Type} {B : Base} {E : Env} {s : Cf} {F : Frame} {Fs cs0 : List Frame} {k : Cf → Option R} {out : AV → Heap → Option R} {r : R}
theorem mkm_ok {ops : Array Oper} {i : Nat} {is : List Nat} {rest : List It} (hS : Sim B E s F Fs) (ht : s.fr.todo = .inRegion ops (i :: is) :: rest) (h : mkm B.cx s ops i is rest k = some r) : StepOK B cs0 E F Fs k out r := by
 obtain ⟨j, T, e, hj, hT⟩ := All2.cons_inv (by rw [← ht]; exact hS.fr.todo)
 cases hj
 unfold mkm at h
 split at h
 ·rename_i o ho
  split at h
  ·rename_i M hop hg
   split at h
   ·rename_i hh mm hf
    simp only at h
    split at h
    ·rename_i y hy
     generalize has : mkArgs B.cx s _ = as at h hy
     have hless : HLess (lendL as s.heap) E.H := by rw [← hS.heap]; exact lendL_less _ _
     have hS1 := hS.less hless
     have hmm := findM_spec hf
     generalize hE1 : E.less B (lendL as s.heap) = E1 at hS1
     have hw1 : E1.m.w = E.m.w := by rw [← hE1]; rfl
     have hH1 : E1.H = lendL as s.heap := by rw [← hE1]; rfl
     let km := E1.m.w.heap.size
     let w' : World := { E1.m.w with heap := E1.m.w.heap.push (.map #[] 0) }
     let M' : Nat → Option (Nat × Sigma den) := fun q => if q = km then some (hh, ⟨.struct mm.ts, y⟩) else E1.m.M q
     have hsame : ∀ q, q < E1.m.w.heap.size → w'.heap[q]? = E1.m.w.heap[q]? := fun q hq => by
      show (E1.m.w.heap.push _)[q]? = _
      rw [Array.getElem?_push, if_neg (by omega)]
     have hreg : ∀ q x, E1.m.M q = some x → M' q = some x := by
      intro q x hq
      obtain ⟨en, clock, mm', x', p1, _⟩ := hS1.ok.memo q x.1 x.2.1 x.2.2 hq
      have := lt_of_some p1
      show (if q = km then _ else _) = _
      rw [if_neg (by intro e; subst e; exact absurd this (Nat.lt_irrefl _))]
      exact hq
     have hle : E1.m.le (E1.world w' M').m := by
      refine ⟨fun q j v hc hm => ⟨?_, hm⟩, hreg, fun q x hk => ?_⟩
      ·have := cell_lt hc
       rw [← hc]; exact cell_block (hsame q this) j
      ·have := shape_lt hk
       rw [← hk]; exact shape_block (hsame q this)
     have hW : WorldOK B E1 w' M' := by
      refine ⟨by show _ ≤ (E1.m.w.heap.push _).size; simp, rfl, rfl, rfl, fun q hq => .inl (hsame q hq), hreg, fun q x hq h0 => ?_, ?_⟩
      ·have hq : (if q = km then some (hh, (⟨.struct mm.ts, y⟩ : Sigma den)) else E1.m.M q) = some x := hq
       split at hq
       ·rename_i e; rw [e]; exact hS1.ok.ext.size
       ·exact hS1.ok.late q x hq h0
      ·intro q i' t' y' hq
       have hq : (if q = km then some (hh, (⟨.struct mm.ts, y⟩ : Sigma den)) else E1.m.M q) = some (i', ⟨t', y'⟩) := hq
       split at hq
       ·rename_i e
        simp only [Option.some.injEq, Prod.mk.injEq, Sigma.mk.injEq] at hq
        obtain ⟨rfl, rfl, hy'⟩ := hq
        have hy' := eq_of_heq hy'
        subst hy'
        refine ⟨#[], 0, mm, y, ?_, hmm, castT_same _ _, fun en hen => by simp at hen⟩
        show (E1.m.w.heap.push _)[q]? = _
        rw [e]
        simp [km]
       ·obtain ⟨en, clock, mm', x', p1, p2, p3, p4⟩ := hS1.ok.memo q i' t' y' hq
        exact ⟨en, clock, mm', x', by rw [show (E1.world w' M').m.w.heap[q]? = E1.m.w.heap[q]? from hsame q (lt_of_some p1)]; exact p1, p2, p3, fun z hz => let ⟨kx, vx, a, b, c⟩ := p4 z hz; ⟨kx, vx, a.mono hle, b.mono hle, c⟩⟩
     have hv : CV (E1.world w' M') (.hm hh (.struct mm.ts) y) (.map (some km)) := by
      refine CV.of1 ?_ rfl
      unfold CC
      exact ⟨km, rfl, if_pos rfl⟩
     have hd : ∀ c, o.op ≠ .defer c := fun c => by rw [hop]; simp
     have hdo : Does B.cx.P o F.eval E1.m.w F (Fs ++ cs0) (.map (some km)) w' := by
      left
      simp [execOp, hop, Instr.makeMap, w', km]
     have hKw : Keeps E1 (E1.world w' M') := ⟨world_le hS1.ok hW, world_goes, rfl, world_dkeep hS1.ok hW⟩
     have hst := m_does (P := B.cx.P) (cs := Fs ++ cs0) (w := E.m.w) (w' := w') (v := .map (some km)) hS.fr.mode e ho (wanted_none hg) hd (by rw [← hw1]; exact hdo)
     refine .inl ⟨_, _, _, Fs, h, fin_ok (s := s) (hS1.fr.keeps hKw) (hS1.callers.mono fun _ _ c => FrOK.keeps hKw c) (hS1.ok.world hW) hS.nd hS.base ?_ ho ht rfl hv, hst, bot_finish⟩
     exact hH1.symm
    ·cases h
   ·cases h
  ·cases h
 ·cases h
end
end Go.Gh
