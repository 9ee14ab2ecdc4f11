/- The ghost machine: frames, configurations, and the shapes of these at cuts. Definitions alone. Conditions: none. -/
import Derived.Test.YtjigflnjgmgmnaaDoorGhA
namespace Go.Gh
inductive It where
 | code (c : Code)
 | inBlock (id : Nat)
 | inLoop (body : Code)
 | inScope (body : Code)
 | inRegion (ops : Array Oper) (todo : List Nat)
 | inDraw (ops : Array Oper) (lo : Nat)    -- what is left of a region that draws its order: from lo on
 | inDrawAt (ops : Array Oper) (lo : Nat)  -- in its operation lo
 | inRangeFunc (g : Nat)
 | endRangeFunc (g : Nat)
 | beginRound
structure Fr where
 fn : FuncId
 n : Nat   -- how many temporaries it has
 regs : Regs
 todo : List It
 round : Option Nat
 defers : List Nat
structure Cf where
 fr : Fr
 callers : List Fr
 heap : Heap
 base : Nat := 0
def usesIt (id : Nat) : It → Bool
 | .inRangeFunc g | .endRangeFunc g => Nat.beq g id
 | _ => false
def usesF (id : Nat) (f : Fr) : Bool := (match f.round with | some g => Nat.beq g id | none => false) || f.defers.any (Nat.beq id) || f.todo.any (usesIt id)
def usesH (id : Nat) (H : Heap) : Bool := H.any fun x => match x.2 with | .loop _ _ _ _ _ _ _ _ _ d => Nat.beq d id | _ => false
def usesS (id : Nat) (s : Cf) : Bool := usesF id s.fr || s.callers.any (usesF id) || usesH id s.heap || Nat.blt id (s.base * 10000000)
inductive Sh where
 | dat (t : Ty)
 | hp (i : Nat) (t : Ty)
 | agg (fs : List Sh)
 | arrL (fs : List Sh)
 | ptr (id : Nat) (path : List Nat)
 | row (id : Nat)
 | sub (id : Nat)
 | fn (f : FuncId) (fst caps : List Sh)
 | yld (g : Nat)
 | nilf | nilp | nilsl | nilm
 | any
inductive BSh where
 | box (s : Sh) (frz : Bool)
 | row (t : Ty) (lent : Bool)
 | loop (fn : FuncId) (n : Nat) (regs : List (Nat × Sh)) (params : List Nat) (defers : Nat) (busy : Bool)
 | dfr (shut : Bool)
 | loopE (fn : FuncId) (n : Nat) (regs : List (Nat × Sh)) (params : List Nat) (defers : Nat) (js : List Nat)
def jmpOf : Nat → Option Code
 | 0 => none
 | 1 => some .ret
 | n + 2 => cond (Nat.beq (n % 2) 0) (some (.exit (n / 2))) (some (.goto (n / 2)))
def jcode : Option Code → Option Nat
 | none => some 0
 | some .ret => some 1
 | some (.exit i) => some (2 * i + 2)
 | some (.goto i) => some (2 * i + 3)
 | _ => none
mutual
@[reducible] def denS : Sh → Type
 | .dat t => den t
 | .hp _ t => den t
 | .agg fs => denSL fs
 | .arrL fs => denSL fs
 | .fn _ a b => denSL a × denSL b
 | .sub _ => Nat × Nat
 | _ => Unit
@[reducible] def denSL : List Sh → Type
 | [] => Unit
 | s :: ss => denS s × denSL ss
end
@[reducible] def denR : List (Nat × Sh) → Type
 | [] => Unit
 | (_, s) :: r => denS s × denR r
@[reducible] def denB : BSh → Type
 | .box s _ => denS s
 | .row t _ => List (den t)
 | .loop _ _ r _ _ _ => denR r
 | .dfr _ => Unit
 | .loopE _ _ r _ _ _ => Nat × denR r
@[reducible] def denH : List (Nat × BSh) → Type
 | [] => Unit
 | (_, b) :: r => denB b × denH r
mutual
def fillS : (s : Sh) → denS s → AV
 | .dat t, x => .dat t x
 | .hp i t, x => .hp i t x
 | .agg fs, x => .agg (fillL fs x)
 | .arrL fs, x => .arrL (fillL fs x)
 | .ptr id p, _ => .ptr id p
 | .row id, _ => .row id
 | .sub id, x => .sub id x.1 x.2
 | .fn f a b, x => .fn f (fillL a x.1) (fillL b x.2)
 | .yld g, _ => .yld g
 | .nilf, _ => .nilf
 | .nilp, _ => .nilp
 | .nilsl, _ => .nilsl
 | .nilm, _ => .nilm
 | .any, _ => .any
def fillL : (ss : List Sh) → denSL ss → List AV
 | [], _ => []
 | s :: ss, x => fillS s x.1 :: fillL ss x.2
end
def fillR : (r : List (Nat × Sh)) → denR r → Regs
 | [], _ => []
 | (t, s) :: r, x => (t, fillS s x.1) :: fillR r x.2
mutual
def skS : Sh → Sk
 | .dat t => skT t
 | .agg fs => .node (skSL fs)
 | .arrL fs => .node (skSL fs)
 | _ => .one
def skSL : List Sh → List Sk
 | [] => []
 | s :: ss => skS s :: skSL ss
end
def fillB (cs : Code × Code) : (b : BSh) → denB b → Blk
 | .box s f, x => .box (fillS s x) f
 | .row t l, x => .row t x l
 | .loop fn n r ps d busy, x => .loop false none busy fn n (fillR r x) ps cs.1 cs.2 d
 | .dfr b, _ => .dfr b
 | .loopE fn n r ps d _, x => .loop (jmpOf x.1).isSome (jmpOf x.1) false fn n (fillR r x.2) ps cs.1 cs.2 d
def noCodes : Code × Code := (.skip, .skip)
def fillH : List (Code × Code) → (h : List (Nat × BSh)) → denH h → Heap
 | _, [], _ => []
 | cs, (i, b) :: h, x => (i, fillB (cs.headD noCodes) b x.1) :: fillH cs.tail h x.2
structure FSpec where
 fn : FuncId
 n : Nat
 regs : List (Nat × Sh)
 round : Option Nat
 defers : List Nat
@[reducible] def denF : List FSpec → Type
 | [] => Unit
 | f :: fs => denR f.regs × denF fs
structure Spec where
 key : Nat × Nat × Nat × Nat
 frs : List FSpec
 heap : List (Nat × BSh)
 base : Nat := 0
 ren : List (Nat × Nat) := []
@[reducible] def denK (s : Spec) : Type := denF s.frs × denH s.heap
def fillF : (fs : List FSpec) → List (List It) → denF fs → List Fr
 | [], _, _ => []
 | f :: fs, t, x => { fn := f.fn, n := f.n, regs := fillR f.regs x.1, todo := t.headD [], round := f.round, defers := f.defers } :: fillF fs t.tail x.2
def noFr : Fr := { fn := 0, n := 0, regs := [], todo := [], round := none, defers := [] }
structure Kept where
 todos : List (List It)
 cs : List (Code × Code)
def fillK (s : Spec) (kp : Kept) (x : denK s) : Cf :=
 let l := fillF s.frs kp.todos x.1
 { fr := l.headD noFr, callers := l.tail, heap := fillH kp.cs s.heap x.2, base := s.base }
mutual
def decS (H : Heap) : (s : Sh) → AV → Option (denS s)
 | .dat t, a => toDat H t a
 | .hp i t, .hp j u x => if i = j then castT u t x else none
 | .agg fs, .agg as => decL H fs as
 | .arrL fs, .arrL as => decL H fs as
 | .ptr id p, .ptr id' p' => if id = id' ∧ p = p' ∧ (hlook H id).isSome then some () else none
 | .row id, .row id' => if id = id' ∧ (hlook H id).isSome then some () else none
 | .row id, .nilsl => if (hlook H id).isNone then some () else none
 | .sub id, .sub id' lo len => if id = id' ∧ (hlook H id).isSome then some (lo, len) else none
 | .fn f a b, .fn f' a' b' => if f = f' then (match decL H a a', decL H b b' with
   | some x, some y => some (x, y)
   | _, _ => none) else none
 | .yld g, .yld g' => if g = g' ∧ (hlook H g).isSome then some () else none
 | .nilf, .nilf => some ()
 | .nilp, .nilp => some ()
 | .nilsl, .nilsl => some ()
 | .nilm, .nilm => some ()
 | .any, a => if eqSk (skA a) .one then some () else none
 | _, _ => none
def decL (H : Heap) : (ss : List Sh) → List AV → Option (denSL ss)
 | [], [] => some ()
 | s :: ss, a :: as => (match decS H s a, decL H ss as with
   | some x, some y => some (x, y)
   | _, _ => none)
 | _, _ => none
end
def decR (H : Heap) : (r : List (Nat × Sh)) → Regs → Option (denR r)
 | [], _ => some ()
 | (t, s) :: r, rs => match decS H s (look rs t), decR H r rs with
   | some x, some y => some (x, y)
   | _, _ => none
def decB (H : Heap) (id : Nat) : (b : BSh) → Option (denB b)
 | .box s f => (match hlook H id with
   | some (.box a f') => if f = f' ∧ eqSk (skS s) (skA a) = true then decS H s a else none
   | _ => none)
 | .row t l => (match hlook H id with
   | some (.row u xs l') => if l' = true → l = true then castT (.slice u) (.slice t) xs else none
   | none => some []
   | _ => none)
 | .loop fn n r ps d busy => (match hlook H id with
   | some (.loop false none busy' fn' n' rs ps' _ _ d') => if busy = busy' ∧ fn = fn' ∧ n = n' ∧ ps = ps' ∧ d = d' then decR H r rs else none
   | _ => none)
 | .dfr b => (match hlook H id with
   | some (.dfr b') => if b = b' then some () else none
   | _ => none)
 | .loopE fn n r ps d _ => (match hlook H id with
   | some (.loop dn jp false fn' n' rs ps' _ _ d') => (match jcode jp with
     | some j => if dn = jp.isSome ∧ fn = fn' ∧ n = n' ∧ ps = ps' ∧ d = d' then (match decR H r rs with
       | some x => some (j, x)
       | none => none) else none
     | none => none)
   | _ => none)
def decH (H : Heap) : (h : List (Nat × BSh)) → Option (denH h)
 | [] => some ()
 | (i, b) :: h => match decB H i b, decH H h with
   | some x, some y => some (x, y)
   | _, _ => none
def decF (H : Heap) : (fs : List FSpec) → List Fr → Option (denF fs)
 | [], [] => some ()
 | f :: fs, r :: rs => if f.fn = r.fn ∧ f.n = r.n ∧ f.round = r.round ∧ f.defers = r.defers then (match decR H f.regs r.regs, decF H fs rs with
   | some x, some y => some (x, y)
   | _, _ => none) else none
 | _, _ => none
mutual
def lendS : Sh → AV → Heap → Heap
 | .dat _, a, H => lendA a H
 | .agg fs, .agg as, H => lendSL fs as H
 | .arrL fs, .arrL as, H => lendSL fs as H
 | .fn _ a b, .fn _ a' b', H => lendSL b b' (lendSL a a' H)
 | _, _, H => H
def lendSL : List Sh → List AV → Heap → Heap
 | s :: ss, a :: as, H => lendSL ss as (lendS s a H)
 | _, _, H => H
end
def lendR : List (Nat × Sh) → Regs → Heap → Heap
 | [], _, H => H
 | (t, s) :: r, rs, H => lendR r rs (lendS s (look rs t) H)
def lendF : List FSpec → List Fr → Heap → Heap
 | f :: fs, r :: rs, H => lendF fs rs (lendR f.regs r.regs H)
 | _, _, H => H
def lendB : List (Nat × BSh) → Heap → Heap
 | [], H => H
 | (i, .box s _) :: r, H => lendB r (match hlook H i with | some (.box a _) => lendS s a H | _ => H)
 | (i, .loop _ _ rg _ _ _) :: r, H => lendB r (match hlook H i with | some (.loop _ _ _ _ _ rs _ _ _ _) => lendR rg rs H | _ => H)
 | (i, .loopE _ _ rg _ _ _) :: r, H => lendB r (match hlook H i with | some (.loop _ _ _ _ _ rs _ _ _ _) => lendR rg rs H | _ => H)
 | _ :: r, H => lendB r H
def decK (s : Spec) (c : Cf) : Option (denK s) :=
 let H := lendB s.heap (lendF s.frs (c.fr :: c.callers) c.heap)
 if (s.heap.all fun x => (hlook H x.1).isSome || !usesS x.1 c) ∧ c.base = s.base then
  (match decF H s.frs (c.fr :: c.callers), decH H s.heap with
  | some x, some y => some (x, y)
  | _, _ => none)
 else none
def todosOf (c : Cf) : List (List It) := c.fr.todo :: c.callers.map (·.todo)
def codesOf (H : Heap) (x : Nat × BSh) : Code × Code := match hlook H x.1 with | some (.loop _ _ _ _ _ _ _ x y _) => (x, y) | _ => noCodes
def keptOf (s : Spec) (c : Cf) : Kept := { todos := todosOf c, cs := s.heap.map (codesOf c.heap) }
def swN (x y j : Nat) : Nat := if j = x then y else if j = y then x else j
mutual
def swA (x y : Nat) : AV → AV
 | .agg fs => .agg (swL x y fs)
 | .arrL fs => .arrL (swL x y fs)
 | .tup fs => .tup (swL x y fs)
 | .ptr j p => .ptr (swN x y j) p
 | .row j => .row (swN x y j)
 | .sub j a b => .sub (swN x y j) a b
 | .fn f fs cs => .fn f (swL x y fs) (swL x y cs)
 | .yld j => .yld (swN x y j)
 | a => a
def swL (x y : Nat) : List AV → List AV
 | [] => []
 | a :: as => swA x y a :: swL x y as
end
def swR (x y : Nat) : Regs → Regs
 | [] => []
 | (t, a) :: r => (t, swA x y a) :: swR x y r
def swB (x y : Nat) : Blk → Blk
 | .box a f => .box (swA x y a) f
 | .loop d j b fn n r p u v e => .loop d j b fn n (swR x y r) p u v e
 | b => b
def swH (x y : Nat) : Heap → Heap
 | [] => []
 | (i, b) :: r => (swN x y i, swB x y b) :: swH x y r
def swF (x y : Nat) (f : Fr) : Fr := { f with regs := swR x y f.regs }
def swC (x y : Nat) (c : Cf) : Cf := { fr := swF x y c.fr, callers := c.callers.map (swF x y), heap := swH x y c.heap, base := c.base }
def placeA (c : Cf) (t : Nat) : AV :=
 cond (Nat.blt t 1000000) (look c.fr.regs t)
  (cond (Nat.blt t 1000000000000) (look (c.callers.getD (t / 1000000 - 1) c.fr).regs (t % 1000000))
    (match hlook c.heap ((t - 1000000000000) / 1000) with
    | some (.box (.agg fs) _) => fs.getD (t % 1000 - 1) .any
    | some (.box a _) => a
    | _ => .any))
def fixL : List (Nat × Nat) → Cf → Cf
 | [], c => c
 | (t, y) :: l, c => fixL l (match placeA c t with
   | .row x => cond (Nat.beq x y || (usesS x c || usesS y c)) c (swC x y c)
   | _ => c)
def fixC (s : Spec) (c : Cf) : Cf := fixL s.ren c
end Go.Gh
/- The ghost machine, the executor: definitions alone. Conditions: none. -/
namespace Go.Gh
inductive TD where
 | int (k : IntKind)
 | struct (offs szs : List Nat)
 | array (n : Nat) (e : TypeId) (esz : Nat)
 | slice (e : TypeId) (esz : Nat)
 | other
structure TE where
 size : Nat
 agg : Bool
 d : TD
 ty : Option Ty
 eq : Bool
 zero : Option AV
structure Con where
 args : List Ty
 res : List Ty
 f : denL args → Option (denL res)
structure Memo where
 T : TypeId
 ts : List Ty
 M : TypeId
 key : Ty
 val : Ty
 f : denL ts → den key → Option (den val)
structure Sub where
 spec : Spec
 base : Nat
 res : List Ty
 outH : List (Nat × BSh)
 f : List (Code × Code) → denK spec → Option (denL res × denH outH)
structure RCon where
 rd : List Bool
 args : List Ty
 res : List Ty
 f : denL args → Option (denL res)
structure Ctx where
 P : Program
 te : TypeId → Option TE
 con : FuncId → Option Con
 memo : Nat → Option Memo
 glob : Nat → AV
 inl : FuncId → Bool
 cst : FuncId → Option AV := fun _ => none
 sub : FuncId → List Sub := fun _ => []
 rcon : FuncId → Option RCon := fun _ => none
 full : Nat → Bool := fun _ => false
 rows : Nat → Bool := fun _ => false
 big : Nat → Bool := fun _ => false
 fcon : FuncId → Option Con := fun _ => none
 twin : Nat → Bool := fun _ => false
 keep : FuncId → Bool := fun _ => false
mutual
def bytesT : Ty → Nat
 | .struct fs => bytesTL fs
 | .arr n t => n * bytesT t
 | .str => 16
 | .slice _ => 24
 | _ => 8
def bytesTL : List Ty → Nat
 | [] => 0
 | t :: ts => bytesT t + bytesTL ts
end
def limB (l : Nat) (t : Ty) : Bool := Nat.ble l 1152921504606846976 && Nat.ble (l * bytesT t) 140737488355328
theorem limB_spec {l : Nat} {t : Ty} (h : limB l t = true) : l ≤ 1152921504606846976 ∧ l * bytesT t ≤ 140737488355328 := by
 unfold limB at h
 rw [Bool.and_eq_true] at h
 exact ⟨Nat.le_of_ble_eq_true h.1, Nat.le_of_ble_eq_true h.2⟩
def limN (t : Ty) : Nat := 140737488355328 / bytesT t
def limA {R : Type} (b : Bool) (t : Ty) (n : Nat) (x : Option R) : Option R :=
 cond b (cond (limB (limN t) t) (cond (decide (n ≤ limN t)) x none) none) (cond (limB 2147483648 t) (cond (decide (n ≤ 2147483648)) x none) none)
theorem limA_some {R : Type} {b : Bool} {t : Ty} {n : Nat} {x : Option R} {r : R} (h : limA b t n x = some r) : x = some r ∧ n ≤ 1152921504606846976 ∧ n * bytesT t ≤ 140737488355328 ∧ ∀ (R' : Type) (x' : Option R'), limA b t n x' = x' := by
 have key : ∀ l, cond (limB l t) (cond (decide (n ≤ l)) x none) none = some r → x = some r ∧ n ≤ 1152921504606846976 ∧ n * bytesT t ≤ 140737488355328 ∧ ∀ (R' : Type) (x' : Option R'), cond (limB l t) (cond (decide (n ≤ l)) x' none) none = x' := fun l hl => by
  cases h1 : limB l t with
  | false => rw [h1] at hl; cases hl
  | true =>
   obtain ⟨l1, l2⟩ := limB_spec h1
   rw [h1, cond_true] at hl
   by_cases h2 : n ≤ l
   ·rw [decide_eq_true h2, cond_true] at hl
    exact ⟨hl, Nat.le_trans h2 l1, Nat.le_trans (Nat.mul_le_mul_right _ h2) l2, fun R' x' => by rw [decide_eq_true h2]; rfl⟩
   ·rw [decide_eq_false h2] at hl; cases hl
 cases b with
 | true => exact key _ h
 | false => exact key _ h
def rowLim : Nat := 2147483648
def constA : Value → AV
 | .int k n => .dat (.int k) n
 | .bool b => .dat .bool b
 | .string s => .dat .str s
 | .slice none 0 0 => .nilsl
 | .pointer none => .nilp
 | .nilFunc => .nilf
 | _ => .top
def opA (cx : Ctx) (r : Regs) : Operand → AV
 | .tmp t => look r t
 | .const v => constA v
 | .global g => cx.glob g
 | .func f => .fn f [] []
def bitF (op : BinOp) (k : IntKind) (x y : Int) : Int :=
 let a := BitVec.ofInt k.bits x
 let b := BitVec.ofInt k.bits y
 match op with
 | .and => k.wrap (a &&& b).toNat
 | .or => k.wrap (a ||| b).toNat
 | .xor => k.wrap (a ^^^ b).toNat
 | _ => k.wrap (a &&& ~~~b).toNat
section
variable {R : Type}
def intOp (op : BinOp) (k : IntKind) (x y : Int) (g : AV → Option R) : Option R :=
 match op with
 | .add => g (.dat (.int k) (k.wrap (x + y)))
 | .sub => g (.dat (.int k) (k.wrap (x - y)))
 | .mul => g (.dat (.int k) (k.wrap (x * y)))
 | .quo => cond (decide (y = 0)) none (g (.dat (.int k) (k.wrap (x.tdiv y))))
 | .rem => cond (decide (y = 0)) none (g (.dat (.int k) (x.tmod y)))
 | .and => g (.dat (.int k) (bitF .and k x y))
 | .or => g (.dat (.int k) (bitF .or k x y))
 | .xor => g (.dat (.int k) (bitF .xor k x y))
 | .andNot => g (.dat (.int k) (bitF .andNot k x y))
 | .eql => g (.dat .bool (x == y))
 | .neq => g (.dat .bool (x != y))
 | .lss => g (.dat .bool (decide (x < y)))
 | .leq => g (.dat .bool (decide (x ≤ y)))
 | .gtr => g (.dat .bool (decide (x > y)))
 | .geq => g (.dat .bool (decide (x ≥ y)))
 | _ => none
def shOp (op : BinOp) (k : IntKind) (x y : Int) (g : AV → Option R) : Option R :=
 cond (decide (y < 0)) none (match op with
  | .shl => g (.dat (.int k) (k.wrap (x * 2 ^ (min y.toNat k.bits))))
  | .shr => g (.dat (.int k) (x.fdiv (2 ^ (min y.toNat k.bits))))
  | _ => none)
def eqOp (op : BinOp) (b : Bool) (g : AV → Option R) : Option R :=
 match op with
 | .eql => g (.dat .bool b)
 | .neq => g (.dat .bool (!b))
 | _ => none
def eqTy (cx : Ctx) (H : Heap) (op : BinOp) (T : TypeId) (a b : AV) (g : AV → Option R) : Option R :=
 match cx.te T with
 | some { ty := some t, eq := true, .. } => match toDat H t a, toDat H t b with
   | some x, some y => eqOp op (eqD t x y) g
   | _, _ => none
 | _ => none
def binA (cx : Ctx) (H : Heap) (op : BinOp) (T : TypeId) (a b : AV) (g : AV → Option R) : Option R :=
 match op with
 | .shl | .shr => (match a, b with
   | .dat (.int k) x, .dat (.int _) y => shOp op k x y g
   | _, _ => none)
 | _ => match a, b with
   | .dat (.int k) x, .dat (.int k') y => if k = k' then intOp op k x y g else none
   | a, b => eqTy cx H op T a b g
def imn (x y : Int) : Int := if y < x then y else x
def imx (x y : Int) : Int := if y > x then y else x
def argA : AV → AV
 | .tup _ => .top
 | a => a
abbrev New := Option Blk
def placeOf : TD → Nat → Option (Nat × Nat)
 | .struct offs szs, i => (match offs[i]?, szs[i]? with
   | some o, some s => some (o, s)
   | _, _ => none)
 | .array _ _ esz, i => some (i * esz, esz)
 | _, _ => none
def buildable : TD → Bool
 | .struct _ _ => true
 | .array _ _ esz => esz != 0
 | _ => false
def buildAll (pl : Nat → Option (Nat × Nat)) : List (Nat × AV) → AV → (AV → Option R) → Option R
 | [], z, g => g z
 | (i, a) :: ps, z, g => match pl i with
   | some (o, s) => if o = offK (skA z) [i] ∧ s = cells a then setA [i] a z (fun z' => buildAll pl ps z' g) else none
   | none => none
def datsOf (H : Heap) (t : Ty) : List (Nat × AV) → List (den t) → Option (List (den t))
 | [], xs => some xs
 | (i, a) :: ps, xs => match toDat H t a with | some x => datsOf H t ps (xs.set i x) | none => none
def lenA (H : Heap) : AV → Option Int
 | .dat (.slice _) xs => some ((List.length xs : Nat) : Int)
 | .nilsl => some 0
 | .row id => match hlook H id with | some (.row _ xs _) => some ((List.length xs : Nat) : Int) | _ => none
 | .sub id _ n => match hlook H id with
  | some (.row _ _ _) => some (n : Int)
  | some (.box b _) => (match skA b with | .rep (_ + 1) _ => some (n : Int) | _ => none)
  | _ => none
 | _ => none
def foldA (f : Int → Int → Int) (k : IntKind) : Int → List AV → Option Int
 | x, [] => some x
 | x, .dat (.int k') y :: r => if k' = k then foldA f k (f x y) r else none
 | _, _ => none
def datAVs : (ts : List Ty) → denL ts → List AV := fieldsT
def ptDat (H : Heap) (t : Ty) : AV → Option (den t)
 | .ptr id [] => (match hlook H id with | some (.box (.dat u x) _) => castT u t x | _ => none)
 | .cptr u x => castT u t x
 | _ => none
def arrDat (H : Heap) (t : Ty) : AV → Option (den t)
 | .sub id lo len => (match hlook H id with
   | some (.box (.dat (.arr (_ + 1) u) xs) _) => castT (.slice u) t (List.take len (List.drop lo xs))
   | _ => none)
 | _ => none
def toDatU (H : Heap) (t : Ty) (a : AV) : Option (den t) := match arrDat H t a with
 | some x => some x
 | none => toDat H t a
def toDatR (H : Heap) : List Bool → (ts : List Ty) → List AV → Option (denL ts)
 | [], ts, as => toDatL H ts as
 | _ :: _, [], [] => some ()
 | b :: rs, t :: ts, a :: as => (match cond b (ptDat H t a) (toDatU H t a), toDatR H rs ts as with
   | some x, some y => some (x, y)
   | _, _ => none)
 | _, _, _ => none
def tupA : List AV → AV
 | [a] => a
 | as => .tup as
noncomputable def dem (a b : Option R) : Option R := open Classical in if a = b then a else none
noncomputable def guardP (p : Prop) (a : Option R) : Option R := open Classical in if p then a else none
def lastHm : List AV → Option (List AV × Nat × Sigma den)
 | [] => none
 | a :: r => (match lastHm r with
   | some (l, z) => some (a :: l, z)
   | none => (match a, r with
     | .hm i t y, [] => some ([], i, ⟨t, y⟩)
     | _, _ => none))
def hmOf : AV → Option (List AV × Nat × Sigma den)
 | .agg as => lastHm as
 | _ => none
def evenK (n : Nat) : Sk → Bool
 | .rep _ s => sizeK s == n
 | .node l => l.all fun s => sizeK s == n
 | _ => false
def bndA (av : Operand → AV) (d : Int) : Option Operand → Option Int
 | none => some d
 | some x => (match av x with | .dat (.int _) i => some i | _ => none)
noncomputable def opf (cx : Ctx) (H : Heap) (av : Operand → AV) (site : Nat) (op : Op) (g : AV → New → Option R) : Option R :=
 match op with
 | .move x | .assign x => g (av x) none
 | .pick c a b => (match av c with
   | .dat .bool c => (match av a, av b with
     | .dat .bool a, .dat .bool b => g (.dat .bool (cond c a b)) none
     | a, b => cond c (g a none) (g b none))
   | _ => none)
 | .alloc T => (match cx.te T with
   | some { zero := some z, .. } => g (.ptr site []) (some (.box z false))
   | _ => none)
 | .box T x => (match hmOf (av x) with
   | some (l, i, z) => guardP (toDat H z.1 (.agg l) = some z.2) (g (.hp i z.1 z.2) none)
   | none => (match cx.te T with
     | some te => if cells (av x) = te.size then g (.ptr site []) (some (.box (av x) false)) else none
     | _ => none))
 | .build T ps => (match cx.te T with
   | some te => (match te.zero with
     | some z => if buildable te.d then buildAll (placeOf te.d) (ps.toList.map fun p => (p.1, av p.2)) z (fun a => g a none) else none
     | none => none)
   | none => none)
 | .buildSlice T n ps => (match cx.te T with
   | some { d := .slice e _, .. } => (match cx.te e with
     | some { ty := some t, zero := some z, size := sz, .. } =>
       if n = 0 then (if ps.size = 0 then g .nilsl none else none) else
       if (ps.toList.all fun p => p.1 < n) ∧ n * sz ≤ 16777216 then
       (match toDat [] t z with
         | some x0 => (match datsOf H t (ps.toList.map fun p => (p.1, av p.2)) (List.replicate n x0) with
           | some xs => cond (cx.full (site % 10000000)) (g (.full t xs) none) (g (.dat (.slice t) xs) none)
           | none => none)
         | none => none) else none
     | _ => none)
   | _ => none)
 | .load T x => (match cx.te T with
   | some te => (match av x with
     | .ptr id p => (match hlook H id with
       | some (.box a _) => getA p a (fun b => if cells b = te.size && b.isAgg == te.agg then g b none else none)
       | some (.row t xs _) => (match p with
         | i :: p => cond (decide (i < xs.length)) (getT p t (List.getD xs i (dflt t)) (fun b => if cells b = te.size && b.isAgg == te.agg then g b none else none)) none
         | [] => none)
       | _ => none)
     | .cptr t y => if size t = te.size && t.isAgg == te.agg then g (.dat t y) none else none
     | .hmp i t y => if te.size = 1 && te.agg == false then g (.hm i t y) none else none
     | _ => none)
   | none => none)
 | .nilCheck x => (match av x with
   | .ptr id p => if (hlook H id).isSome then g (.ptr id p) none else none
   | .cptr t y => g (.cptr t y) none
   | .hp i t y => g (.hp i t y) none
   | .dat (.hnd i t) o => Option.bind o (fun y => g (.hp i t y) none)
   | .fn f a b => g (.fn f a b) none
   | _ => none)
 | .binOp op T x y _ => binA cx H op T (av x) (av y) (fun a => g a none)
 | .unOp op _ x => (match op, av x with
   | .not, .dat .bool b => g (.dat .bool (!b)) none
   | .neg, .dat (.int k) n => g (.dat (.int k) (k.wrap (0 - n))) none
   | _, _ => none)
 | .convert S T x => (match cx.te S, cx.te T, av x with
   | some _, some { d := .int k, .. }, .dat (.int _) n => g (.dat (.int k) (k.wrap n)) none
   | _, _, _ => none)
 | .makeFunc (.func f) fs cs => g (.fn f (fs.toList.map fun x => argA (av x)) (cs.toList.map fun x => argA (av x))) none
 | .slice T x lo hi none => (match cx.te T with
   | some { d := .slice _ esz, .. } => (match av x, lo, hi with
     | .dat (.slice t) xs, none, some h => (match av h with
       | .dat (.int _) n => if size t = esz then cond (decide (0 ≤ n) && decide (n ≤ (List.length xs : Int))) (g (.dat (.slice t) (List.take n.toNat xs)) none) none else none
       | _ => none)
     | .dat (.slice t) xs, some l, none => (match av l with
       | .dat (.int _) n => if size t = esz then cond (decide (0 ≤ n) && decide (n ≤ (List.length xs : Int))) (g (.dat (.slice t) (List.drop n.toNat xs)) none) none else none
       | _ => none)
     | .row id, none, some h => (match av h, hlook H id with
       | .dat (.int _) n, some (.row t xs _) => if size t = esz then cond (decide (0 ≤ n) && decide (n ≤ (List.length xs : Int))) (g (.sub id 0 n.toNat) none) none else none
       | _, _ => none)
     | .row id, some l, none => (match av l, hlook H id with
       | .dat (.int _) n, some (.row t xs _) => if size t = esz then cond (decide (0 ≤ n) && decide (n ≤ (List.length xs : Int))) (g (.sub id n.toNat (List.length xs - n.toNat)) none) none else none
       | _, _ => none)
     | _, _, _ => none)
   | some { d := .array n _ esz, .. } => (match av x, bndA av 0 lo, bndA av n hi with
     | .cptr (.arr m t) y, some l, some h => if m = n ∧ size t = esz then cond (decide (0 ≤ l) && decide (l ≤ h) && decide (h ≤ (n : Int))) (g (.dat (.slice t) (List.take (h - l).toNat (List.drop l.toNat y))) none) none else none
     | .ptr id [], some l, some h => (match hlook H id with
       | some (.box b _) => (match skA b with
         | .rep (m + 1) s => if m + 1 = n ∧ sizeK s = esz then cond (decide (0 ≤ l) && decide (l ≤ h) && decide (h ≤ (n : Int))) (g (.sub id l.toNat (h - l).toNat) none) none else none
         | _ => none)
       | _ => none)
     | _, _, _ => none)
   | _ => none)
 | .fieldAddr T x k => (match cx.te T with
   | some { d := .struct offs _, .. } => (match offs[k]? with
     | some off => (match av x with
       | .ptr id p => (match hlook H id with
         | some b => (match skAt (skB b) p with
           | .node l => if k < l.length ∧ sizeKL (l.take k) = off then g (.ptr id (p ++ [k])) none else none
           | _ => none)
         | none => none)
       | .cptr (.struct fs) y => if sizeL (fs.take k) = off then (match fieldT fs y k with | some ⟨t, z⟩ => g (.cptr t z) none | none => none) else none
       | .hp i (.struct fs) y => if sizeL (fs.take k) = off then (if k = fs.length then g (.hmp i (.struct fs) y) none else
         (match fieldT fs y k with | some ⟨t, z⟩ => g (.cptr t z) none | none => none)) else none
       | _ => none)
     | none => none)
   | _ => none)
 | .indexAddr T x ix => (match cx.te T, av ix with
   | some { d := .array n _ esz, .. }, .dat (.int _) i => (match av x with
     | .ptr id p => (match hlook H id with
       | some b => (match skAt (skB b) p with
         | .rep _ s => if sizeK s = esz then cond (decide (0 ≤ i) && decide (i < (n : Int))) (g (.ptr id (p ++ [i.toNat])) none) none else none
         | .node l => if l.all (fun s => sizeK s == esz) ∧ l.length = n then cond (decide (0 ≤ i) && decide (i < (n : Int))) (splitN i.toNat (fun j => g (.ptr id (p ++ [j])) none) 0 n) none else none
         | _ => none)
       | none => none)
     | .cptr (.arr m t) y => if m = n ∧ size t = esz then cond (decide (0 ≤ i) && decide (i < (n : Int))) (g (.cptr t (List.getD y i.toNat (dflt t))) none) none else none
     | _ => none)
   | some { d := .slice _ esz, .. }, .dat (.int _) i => (match av x with
     | .dat (.slice t) xs => if size t = esz then cond (decide (0 ≤ i) && decide (i < (List.length xs : Int))) (g (.cptr t (List.getD xs i.toNat (dflt t))) none) none else none
     | .row id => (match hlook H id with
       | some (.row t xs _) => if size t = esz then cond (decide (0 ≤ i) && decide (i < (List.length xs : Int))) (g (.ptr id [i.toNat]) none) none else none
       | _ => none)
     | .sub id lo len => (match hlook H id with
       | some (.box b _) => (match skA b with
         | .rep (_ + 1) s => if sizeK s = esz then cond (decide (0 ≤ i) && decide (i < (len : Int))) (g (.ptr id [lo + i.toNat]) none) none else none
         | _ => none)
       | _ => none)
     | _ => none)
   | _, _ => none)
 | .field T x k => (match cx.P.underlying T with
   | some (.struct fs) => (match (fs : Array Field)[k]? with
     | some f => (match cx.te f.type with
       | some te => if (av x).isAgg = true ∧ offK (skA (av x)) [k] = f.offset then getA [k] (av x) (fun b => if cells b = te.size && b.isAgg == te.agg then g b none else none) else none
       | none => none)
     | none => none)
   | _ => none)
 | .index T x ix => (match cx.te T, av ix with
   | some { d := .array n e esz, .. }, .dat (.int _) i => (match cx.te e with
     | some te => if (av x).isAgg = true ∧ te.size = esz ∧ evenK esz (skA (av x)) = true then cond (decide (0 ≤ i) && decide (i < (n : Int))) (getA [i.toNat] (av x) (fun b => if cells b = te.size && b.isAgg == te.agg then g b none else none)) none else none
     | none => none)
   | _, _ => none)
 | .extract x k => (match av x with
   | .tup as => (match as[k]? with | some a => g a none | none => none)
   | _ => none)
 | .call { callee := .builtin b, args, argTypes } => (match b, (args.toList.map av) with
   | .len, [a] => (match argTypes.toList with
     | T :: _ => (match cx.te T with
       | some { d := .slice _ _, .. } => (match lenA H a with | some n => g (.dat (.int .i64) n) none | none => none)
       | _ => none)
     | [] => none)
   | .min, .dat (.int k) x :: r => (match foldA imn k x r with | some n => g (.dat (.int k) n) none | none => none)
   | .max, .dat (.int k) x :: r => (match foldA imx k x r with | some n => g (.dat (.int k) n) none | none => none)
   | .append, [.full t0 xs0, x] => (match argTypes.toList with
     | [T, T'] => if T = T' then (match cx.te T with
       | some { d := .slice e _, .. } => (match cx.te e with
         | some { ty := some t, zero := some _, .. } => (match toDat H (.slice t) x, castT (.slice t0) (.slice t) xs0 with
           | some ys, some xs => limA (cx.big (site % 10000000)) t (List.length xs + List.length ys) (g (.dat (.slice t) (xs ++ ys)) none)
           | _, _ => none)
         | _ => none)
       | _ => none) else none
     | _ => none)
   | _, _ => none)
 | .call { callee := .value f, args, .. } => (match av f with
   | .fn k fs cs => (match cx.con k with
     | some c => (match toDatL H c.args (fs ++ args.toList.map (fun x => argA (av x)) ++ cs) with
       | some x => Option.bind (c.f x) (fun y => g (tupA (datAVs c.res y)) none)
       | none => none)
     | none => (match cx.rcon k with
       | some c => (match toDatR H c.rd c.args (fs ++ args.toList.map (fun x => argA (av x)) ++ cs) with
         | some x => Option.bind (c.f x) (fun y => g (tupA (datAVs c.res y)) none)
         | none => none)
       | none => (match cx.cst k, fs, args.toList, cs with
         | some a, [], [], [] => g a none
         | _, _, _, _ => none)))
   | _ => none)
 | _ => none
noncomputable def demL {α : Type} (a : Option R) (o : Option α) (k : α → Option R) : Option R :=
 match o with
 | none => a
 | some v => dem a (k v)
def subOf (H : Heap) : AV → Option (Nat × Nat × Nat)
 | .sub id lo len => some (id, lo, len)
 | .row id => (match hlook H id with | some (.row _ xs _) => some (id, 0, List.length xs) | _ => none)
 | _ => none
def storeA (cx : Ctx) (H : Heap) (av : Operand → AV) (T : TypeId) (x v : Operand) (g : Nat → Blk → Option R) : Option R :=
 match cx.te T with
 | some te => if cells (av v) = te.size then (match av x with
   | .ptr id p => (match hlook H id with
     | some (.box a false) => setA p (av v) a (fun b => g id (.box b false))
     | some (.row t xs false) => (match p with
       | i :: p => cond (decide (i < xs.length)) (match av v with
         | .dat u y => setT p u y t (List.getD xs i (dflt t)) (fun z => g id (.row t (List.set xs i z) false))
         | _ => none) none
       | [] => none)
     | _ => none)
   | _ => none) else none
 | none => none
noncomputable def opw (cx : Ctx) (H : Heap) (av : Operand → AV) (site : Nat) (op : Op) (g : AV → Heap → Option R) : Option R :=
 match op with
 | .store T x v => storeA cx H av T x v (fun id b => g .top (hset H id b))
 | .slice T x lo hi none => (match cx.te T, av x, lo, hi with
   | some { d := .array n _ _, .. }, .ptr id [], none, some h => (match hlook H id, av h with
     | some (.box (.dat (.arr m t) xs) _), .dat (.int _) i =>
       if m = n then cond (decide (0 ≤ i) && decide (i ≤ (n : Int))) (g (.dat (.slice t) (List.take i.toNat xs)) (hset H id (.box (.dat (.arr m t) xs) true))) none else none
     | _, _ => none)
   | some { d := .array n _ esz, .. }, .ptr id [], lo, hi => (match hlook H id, bndA av 0 lo, bndA av n hi with
     | some (.box b _), some l, some h => (match skA b with
       | .rep (m + 1) s => if m + 1 = n ∧ sizeK s = esz then cond (decide (0 ≤ l) && decide (l ≤ h) && decide (h ≤ (n : Int))) (g (.sub id l.toNat (h - l).toNat) H) none else none
       | _ => none)
     | _, _, _ => none)
   | some { d := .slice _ esz, .. }, .row id, none, some h => (match hlook H id, av h with
     | some (.row t xs false), .dat (.int _) i => if size t = esz then cond (decide (0 ≤ i) && decide (i ≤ (List.length xs : Int))) (g (.row id) ((id, .row t (List.take i.toNat xs) false) :: purgeH id H)) none else none
     | _, _ => none)
   | _, _, _, _ => none)
 | .buildSlice T n ps => (match cx.te T with
   | some { d := .slice e _, .. } => (match cx.te e with
     | some { ty := some t, zero := some z, size := sz, .. } =>
       if n ≠ 0 ∧ (ps.toList.all fun p => p.1 < n) ∧ n * sz ≤ 16777216 then
       (match toDat [] t z with
         | some x0 => (match datsOf H t (ps.toList.map fun p => (p.1, av p.2)) (List.replicate n x0) with
           | some xs => g (.row site) ((site, .row t xs false) :: purgeH site H)
           | none => none)
         | none => none) else none
     | _ => none)
   | _ => none)
 | .makeSlice T l c => (match cx.te T, av l, av c with
   | some { d := .slice e _, .. }, .dat (.int .i64) n, .dat (.int .i64) m => (match cx.te e with
     | some { ty := some t, zero := some z, .. } => (match toDat H t z with
       | some x => cond (decide (0 ≤ n) && decide (n ≤ (rowLim : Int)) && decide (m = n)) (g (.row site) ((site, .row t (List.replicate n.toNat x) false) :: purgeH site H)) none
       | none => none)
     | _ => none)
   | _, _, _ => none)
 | .mapUpdate T m k v => (match av m with
   | .hm i t y => (match cx.memo i with
     | some mm => if mm.M = T then (match castT t (.struct mm.ts) y, toDat H mm.key (av k), toDat H mm.val (av v) with
       | some y, some k, some v => guardP (mm.f y k = some v) (g .top H)
       | _, _, _ => none) else none
     | none => none)
   | _ => none)
 | .lookup T x k true => (match av x with
   | .hm i t y => (match cx.memo i with
     | some mm => if mm.M = T then (match castT t (.struct mm.ts) y, toDat H mm.key (av k) with
       | some y, some k => demL (g (.tup [.dat mm.val (dflt mm.val), .dat .bool false]) H) (mm.f y k) (fun v => g (.tup [.dat mm.val v, .dat .bool true]) H)
       | _, _ => none) else none
     | none => none)
   | _ => none)
 | .call { callee := .builtin .append, args, argTypes } => (match argTypes.toList, args.toList.map av with
   | [T, T'], [s, x] => if T = T' then (match cx.te T with
     | some { d := .slice e _, .. } => (match cx.te e with
       | some { ty := some t, zero := some _, .. } => (match toDat H (.slice t) x with
         | some ys => (match s with
           | .nilsl => limA (cx.big (site % 10000000)) t (List.length ys) (g (.row site) ((site, .row t ys false) :: purgeH site H))
           | .row id => (match hlook H id with
             | some (.row t' xs lent) => (match castT (.slice t') (.slice t) xs with
               | some xs => limA (cx.big (site % 10000000)) t (List.length xs + List.length ys) (g (.row id) ((id, .row t (xs ++ ys) lent) :: purgeH id H))
               | none => none)
             | _ => none)
           | _ => none)
         | none => none)
       | _ => none)
     | _ => none) else none
   | _, _ => none)
 | .call { callee := .builtin .copy, args, argTypes } => (match argTypes.toList, args.toList.map av with
   | T :: _, [d, x] => (match cx.te T, subOf H d with
     | some { d := .slice _ esz, .. }, some (id, lo, len) => (match hlook H id with
       | some (.row t xs false) => if size t = esz then (match toDatU H (.slice t) x with
         | some ys => g (.dat (.int .i64) ((min (List.length ys) len : Nat) : Int)) (hset H id (.row t (List.take lo xs ++ List.take (min (List.length ys) len) ys ++ List.drop (lo + min (List.length ys) len) xs) false))
         | none => none) else none
       | _ => none)
     | _, _ => none)
   | _, _ => none)
 | _ => none
def isFree (_ : Ctx) (av : Operand → AV) (op : Op) : Bool :=
 match op with
 | .store .. | .makeSlice .. | .mapUpdate .. | .lookup .. => false
 | .slice _ x _ _ _ => (match av x with | .ptr .. => false | _ => true)
 | .call { callee := .builtin b, args, .. } => (match b with
   | .append => (match args.toList.head?.map av with | some (.full _ _) => true | _ => false)
   | .copy => false
   | _ => true)
 | _ => true
def rowOp (cx : Ctx) (site : Nat) : Op → Bool
 | .buildSlice _ _ _ => cx.rows (site % 10000000)
 | .slice _ _ _ _ _ => cx.rows (site % 10000000)
 | _ => false
def siteOf (s : Cf) (o : Oper) : Nat := ((s.base + s.callers.length) * 1000 + s.fr.fn) * 10000 + o.dst.getD 9999
def putR (n : Nat) (r : Regs) (d : Option Nat) (a : AV) : Regs :=
 match d with
 | some t => cond (Nat.blt t n) ((t, a) :: r) r
 | none => r
def purgeF (id : Nat) (f : Fr) : Fr := { f with regs := purgeR id f.regs }
def purgeS (id : Nat) (s : Cf) : Cf := { fr := purgeF id s.fr, callers := s.callers.map (purgeF id), heap := purgeH id s.heap, base := s.base }
def fin (s : Cf) (o : Oper) (nxt : It) (rest : List It) (a : AV) (H : Heap) : Cf :=
 { s with fr := { s.fr with regs := putR s.fr.n s.fr.regs o.dst a, todo := nxt :: rest }, heap := H }
def argOps : Op → List Operand
 | .call { callee := .value f, args, .. } => f :: args.toList
 | .call { callee := .builtin .append, args, .. } => args.toList.drop 1
 | .call { callee := .builtin .copy, args, .. } => args.toList.drop 1
 | .buildSlice _ _ ps => ps.toList.map (·.2)
 | .mapUpdate _ _ k v => [k, v]
 | _ => []
def lendOp (cx : Ctx) (r : Regs) (op : Op) (H : Heap) : Heap := lendL ((argOps op).map (opA cx r)) H
def Code.first : Code → Nat
 | .region id _ _ => id
 | .seq a _ => Code.first a
 | .cond _ t _ => Code.first t
 | .block _ b | .loop b | .scope b => Code.first b
 | _ => 100000
def zipR (n : Nat) : List Nat → List AV → Regs → Option Regs
 | [], [], r => some r
 | t :: ts, a :: as, r => zipR n ts as (putR n r (some t) a)
 | _, _, _ => none
def yldOf (av : Operand → AV) (op : Op) : Option (Nat × List AV) :=
 match op with
 | .call { callee := .value f, args, .. } => (match av f with
   | .yld g => some (g, args.toList.map fun x => argA (av x))
   | _ => none)
 | _ => none
def inlOf (cx : Ctx) (av : Operand → AV) (op : Op) : Option (FuncId × List AV) :=
 match op with
 | .call { callee := .value f, args, .. } => (match av f with
   | .fn n fs cs => if (cx.con n).isSome || (cx.rcon n).isSome || (cx.cst n).isSome then none else some (n, fs ++ args.toList.map (fun x => argA (av x)) ++ cs)
   | _ => none)
 | _ => none
def freOf (cx : Ctx) (av : Operand → AV) (op : Op) : Option (FuncId × Con × List AV) :=
 match op with
 | .call { callee := .value f, args, .. } => (match av f with
   | .fn n fs cs => (match cx.fcon n with
     | some c => some (n, c, fs ++ args.toList.map (fun x => argA (av x)) ++ cs)
     | none => none)
   | _ => none)
 | _ => none
def freK : (ts : List Ty) → denL ts → Nat → Nat → (AV → Blk → Option Blk → Option R) → Option R
 | .slice t :: .slice u :: ts, y, id, id2, g => g (.tup (.row id :: .row id2 :: datAVs ts y.2.2)) (.row t y.1 false) (some (.row u y.2.1 false))
 | .slice t :: ts, y, id, _, g => g (tupA (.row id :: datAVs ts y.2)) (.row t y.1 false) none
 | _, _, _, _, _ => none
def freeId (H : Heap) : Nat → Nat → Nat
 | 0, site => site
 | n + 1, site => cond (hlook H site).isSome (freeId H n (site + 10000000000)) site
def twinOf (cx : Ctx) (H : Heap) (site : Nat) : Nat := cond (cx.twin (site % 10000000)) (freeId H 100 site) site
def memN (j : Nat) : List Nat → Bool
 | [] => false
 | i :: l => Nat.beq i j || memN j l
mutual
def lowA (n : Nat) (l : List Nat) : AV → Bool
 | .agg fs | .arrL fs | .tup fs => lowL n l fs
 | .ptr j _ => Nat.blt j n || memN j l
 | .row j => Nat.blt j n || memN j l
 | .sub j _ _ => Nat.blt j n || memN j l
 | .fn _ fs cs => lowL n l fs && lowL n l cs
 | .yld j => Nat.blt j n || memN j l
 | _ => true
def lowL (n : Nat) (l : List Nat) : List AV → Bool
 | [] => true
 | a :: as => lowA n l a && lowL n l as
end
def lowIt (n : Nat) : It → Bool
 | .inRangeFunc g | .endRangeFunc g => Nat.blt g n
 | _ => true
def lowF (n : Nat) (l : List Nat) (f : Fr) : Bool :=
 (f.regs.all fun x => lowA n l (look f.regs x.1)) && (match f.round with | some g => Nat.blt g n | none => true) && f.defers.all (fun d => Nat.blt d n) && f.todo.all (lowIt n)
def lowS (b : Nat) (l : List Nat) (s : Cf) : Bool := Nat.ble s.base b && lowF (b * 10000000) l s.fr && s.callers.all (lowF (b * 10000000) l)
def lowB (n : Nat) : Blk → Bool
 | .box a _ => lowA n [] a
 | .loop _ _ _ _ _ rg _ _ _ d => Nat.blt d n && rg.all (fun x => lowA n [] (look rg x.1))
 | _ => true
def localsOf (n : Nat) : List Nat → Heap → Heap
 | _, [] => []
 | out, (i, .box (.dat t x) false) :: r => cond (memN i out || Nat.blt i n) (localsOf n (i :: out) r) ((i, .box (.dat t x) false) :: localsOf n (i :: out) r)
 | out, (i, _) :: r => localsOf n (i :: out) r
def idsOf (H : Heap) : List Nat := H.map (·.1)
def heapBut (l : List Nat) : Heap → Heap
 | [] => []
 | (i, b) :: r => cond (memN i l) (heapBut l r) ((i, b) :: heapBut l r)
def splitL : List Nat → Nat → (Nat → Option R) → Option R
 | [], _, _ => none
 | a :: l, j, f => cond (Nat.beq j a) (f a) (splitL l j f)
def splitH : (h : List (Nat × BSh)) → denH h → (denH h → Option R) → Option R
 | [], x, k => k x
 | (_, .loopE _ _ _ _ _ js) :: h, x, k => splitL js x.1.1 (fun j => splitH h x.2 (fun y => k ((j, x.1.2), y)))
 | (_, .box _ _) :: h, x, k => splitH h x.2 (fun y => k (x.1, y))
 | (_, .row _ _) :: h, x, k => splitH h x.2 (fun y => k (x.1, y))
 | (_, .loop _ _ _ _ _ _) :: h, x, k => splitH h x.2 (fun y => k (x.1, y))
 | (_, .dfr _) :: h, x, k => splitH h x.2 (fun y => k (x.1, y))
def subPick (s c0 : Cf) : List Sub → Option Sub
 | [] => none
 | sb :: l => cond (decK sb.spec { c0 with heap := heapBut (idsOf (localsOf (sb.base * 10000000) [] s.heap)) s.heap, base := sb.base }).isSome (some sb) (subPick s c0 l)
noncomputable def subCall (s : Cf) (o : Oper) (nxt : It) (rest : List It) (sb : Sub) (c0 : Cf) (k : Cf → Option R) : Option R :=
 let L := localsOf (sb.base * 10000000) [] s.heap
 let c1 := { c0 with heap := heapBut (idsOf L) s.heap, base := sb.base }
 cond (lowS sb.base (idsOf L) s && sb.outH.all (fun x => Nat.blt x.1 (sb.base * 10000000))) (match decK sb.spec c1 with
  | some x => Option.bind (sb.f (keptOf sb.spec c1).cs x) (fun y => splitH sb.outH y.2 (fun h =>
    let H' := fillH (sb.outH.map (codesOf c1.heap)) sb.outH h
    cond (H'.all fun x => lowB (sb.base * 10000000) x.2) (k (fin s o nxt rest (tupA (datAVs sb.res y.1)) (L ++ H'))) none))
  | none => none) none
def freGo (s : Cf) (o : Oper) (nxt : It) (rest : List It) (k : Cf → Option R) (H : Heap) (id : Nat) (a : AV) (b : Blk) : Option R :=
 cond (usesS id s) none (k (fin (purgeS id s) o nxt rest a ((id, b) :: purgeH id H)))
def freGo2 (s : Cf) (o : Oper) (nxt : It) (rest : List It) (k : Cf → Option R) (H : Heap) (id id2 : Nat) (a : AV) (b b2 : Blk) : Option R :=
 cond (usesS id s || usesS id2 s || Nat.beq id id2) none (k (fin (purgeS id2 (purgeS id s)) o nxt rest a ((id2, b2) :: (id, b) :: purgeH id2 (purgeH id H))))
noncomputable def operGo (cx : Ctx) (s : Cf) (o : Oper) (nxt : It) (rest : List It) (k : Cf → Option R) : Option R :=
 match yldOf (opA cx s.fr.regs) o.op with
 | some (g, as) => (match hlook s.heap g with
   | some (.loop _ _ _ fn nt r ps x y _) => (match zipR nt ps as r with
     | some r' => k { fr := { fn, n := nt, regs := r', todo := [.code x, .beginRound, .code y], round := some g, defers := [] }, callers := s.fr :: s.callers, heap := s.heap, base := s.base }
     | none => none)
   | _ => none)
 | none =>
 match inlOf cx (opA cx s.fr.regs) o.op with
 | some (n, as) => (match cx.P.funcs[n]? with
   | some fn => (match fn.body with
     | some c => cond (cx.inl n && Nat.ble as.length fn.ntmps) (match cx.sub n with
       | [] => k { fr := { fn := n, n := fn.ntmps, regs := (List.range as.length).zip as, todo := [.code c], round := none, defers := [] }, callers := s.fr :: s.callers, heap := s.heap, base := s.base }
       | sb0 :: l => (match subPick s { fr := { fn := n, n := fn.ntmps, regs := (List.range as.length).zip as, todo := [.code c], round := none, defers := [] }, callers := [], heap := s.heap, base := s.base } (sb0 :: l) with
         | some sb => subCall s o nxt rest sb { fr := { fn := n, n := fn.ntmps, regs := (List.range as.length).zip as, todo := [.code c], round := none, defers := [] }, callers := [], heap := s.heap, base := s.base } k
         | none => none)) none
     | none => none)
   | none => none)
 | none =>
 match freOf cx (opA cx s.fr.regs) o.op with
 | some (_, c, as) => (match toDatL (lendOp cx s.fr.regs o.op s.heap) c.args as with
   | some x => Option.bind (c.f x) (fun y => freK c.res y (twinOf cx s.heap (siteOf s o)) (twinOf cx s.heap (siteOf s o + 5000000000)) (fun a b b2 => match b2 with
     | none => freGo s o nxt rest k (lendOp cx s.fr.regs o.op s.heap) (twinOf cx s.heap (siteOf s o)) a b
     | some b2 => freGo2 s o nxt rest k (lendOp cx s.fr.regs o.op s.heap) (twinOf cx s.heap (siteOf s o)) (twinOf cx s.heap (siteOf s o + 5000000000)) a b b2))
   | none => none)
 | none =>
  let H := lendOp cx s.fr.regs o.op s.heap
  if isFree cx (opA cx s.fr.regs) o.op && !rowOp cx (siteOf s o) o.op then
   opf cx H (opA cx s.fr.regs) (siteOf s o) o.op (fun a new => match new with
    | none => k (fin s o nxt rest a H)
    | some b => cond (usesS (siteOf s o) s) none (k (fin (purgeS (siteOf s o) s) o nxt rest a ((siteOf s o, purgeB (siteOf s o) b) :: purgeH (siteOf s o) H))))
  else
   opw cx H (opA cx s.fr.regs) (twinOf cx s.heap (siteOf s o)) o.op (fun a H' => match a with
    | .row id => cond (usesS id s) none (k (fin (purgeS id s) o nxt rest a H'))
    | _ => k (fin s o nxt rest a H'))
def setR (s : Cf) (t : Nat) (b : Bool) : Cf := { s with fr := { s.fr with regs := (t, .dat .bool b) :: s.fr.regs } }
noncomputable def oper (cx : Ctx) (s : Cf) (ops : Array Oper) (i : Nat) (nxt : It) (rest : List It) (k : Cf → Option R) : Option R :=
 match ops[i]? with
 | none => none
 | some o =>
  match o.guard with
  | none => operGo cx s o nxt rest k
  | some (j, want) =>
   match (ops[j]?).bind (·.dst) with
   | none => none
   | some t =>
    match look s.fr.regs t with
    | .dat .bool b =>
      cond b (cond want (operGo cx (setR s t true) o nxt rest k) (k (fin (setR s t true) o nxt rest (.tup []) s.heap)))
          (cond want (k (fin (setR s t false) o nxt rest (.tup []) s.heap)) (operGo cx (setR s t false) o nxt rest k))
    | .tup [] => k (fin s o nxt rest (.tup []) s.heap)
    | _ => none
def befs (ops : Array Oper) (i j : Nat) : Bool := ((Region.before ops).getD i 0).testBit j
def edgeOK (ops : Array Oper) : Bool := ops.toList.zipIdx.all fun (o, i) => o.after.all fun e => !Region.binds .any e || Nat.blt e.on i
def bound (ops : Array Oper) (h : Nat) : Bool := (List.range' h (ops.size - h)).all fun i => (List.range h).all (befs ops i)
def nextFrom (ops : Array Oper) : Nat → Nat → Nat
 | 0, h => h
 | n + 1, h => cond (bound ops h) h (nextFrom ops n (h + 1))
def nextB (ops : Array Oper) (lo : Nat) : Nat := nextFrom ops (ops.size - (lo + 1)) (lo + 1)
def opTmps (o : Oper) : List Nat := o.op.operands.toList.filterMap fun | .tmp t => some t | _ => none
def looks (ops : Array Oper) (o : Oper) : List Nat :=
 opTmps o ++ (match o.guard with | some (j, _) => ((ops[j]?).bind (·.dst)).toList | none => [])
def drawOK (ops : Array Oper) (n lo hi : Nat) : Bool :=
 (List.range' lo (hi - lo)).all fun i => match ops[i]? with
  | none => false
  | some o => (match o.dst with | some d => Nat.blt d n | none => true) && (List.range' lo (hi - lo)).all fun j => match ops[j]? with
    | none => false
    | some o' => (match o'.dst with
      | none => true
      | some d => (i == j || o.dst != some d) && (!(looks ops o).contains d || (Nat.blt j i && befs ops i j) || Nat.beq i j || befs ops j i))
def allocOf (s : Cf) (o : Oper) : Option Nat :=
 match o.op with
 | .alloc _ | .box _ _ | .call { callee := .builtin .append, .. } => some (siteOf s o)
 | _ => none
def allocsOf (s : Cf) (ops : Array Oper) (lo hi : Nat) : List Nat := (List.range' lo (hi - lo)).filterMap fun i => (ops[i]?).bind (allocOf s)
def apartOK (s : Cf) (ops : Array Oper) (lo hi : Nat) : Bool :=
 (List.range' lo (hi - lo)).all fun i => (List.range' lo (hi - lo)).all fun j => Nat.beq i j || (match (ops[i]?).bind (allocOf s), (ops[j]?).bind (allocOf s) with
  | some a, some b => !Nat.beq a b
  | _, _ => true)
def menB (id : Nat) : Blk → Bool
 | .box a _ => men id a
 | .loop _ _ _ _ _ rg _ _ _ _ => rg.any fun x => men id x.2
 | _ => false
abbrev Effs := List (Nat × Nat × Blk)
def drawMen (s : Cf) (ops : Array Oper) (lo hi : Nat) (r : Regs) (effs : Effs) : Bool :=
 (List.range' lo (hi - lo)).all fun i => match (ops[i]?).bind (allocOf s) with
  | none => true
  | some id => ((List.range' lo (hi - lo)).all fun j => Nat.beq i j || befs ops j i || (match (ops[j]?).bind (·.dst) with
    | some d => !men id (look r d)
    | none => true)) && effs.all fun e => (!Nat.beq i e.1 && befs ops e.1 i) || !menB id e.2.2
def addrOp : Op → Bool
 | .nilCheck _ | .fieldAddr _ _ _ | .indexAddr _ _ _ => true
 | _ => false
def isStore : Op → Bool
 | .store _ _ _ => true
 | _ => false
def setsOK (cx : Ctx) (s : Cf) (ops : Array Oper) (lo hi : Nat) (r : Regs) (effs : Effs) : Bool :=
 effs.all fun e => match ops[e.1]? with
  | none => false
  | some w => !isStore w.op || ((effs.all fun e' => Nat.beq e.1 e'.1 || !Nat.beq e.2.1 e'.2.1 || befs ops e.1 e'.1 || (befs ops e'.1 e.1 && (match ops[e'.1]? with | some w' => isStore w'.op | none => false))) &&
    (List.range' lo (hi - lo)).all fun i => Nat.beq i e.1 || befs ops i e.1 || befs ops e.1 i || (match ops[i]? with
     | none => false
     | some o => addrOp o.op || o.op.operands.all fun x => !men e.2.1 (opA cx r x) && !men e.2.1 (opA cx s.fr.regs x)))
def purgeAll (s : Cf) : List Nat → Cf
 | [] => s
 | id :: l => purgeAll (purgeS id s) l
def movOf (ops : Array Oper) (lo hi t : Nat) : Option Operand :=
 (List.range' lo (hi - lo)).findSome? fun j => match ops[j]? with
  | some o => (match o.dst, o.op with
    | some d, .move y | some d, .assign y => cond (Nat.beq d t) (some y) none
    | _, _ => none)
  | none => none
def srcA (cx : Ctx) (s : Cf) (ops : Array Oper) (lo hi : Nat) (x : Operand) : AV :=
 match x with
 | .tmp t => (match movOf ops lo hi t with
   | some y => opA cx s.fr.regs y
   | none => opA cx s.fr.regs x)
 | x => opA cx s.fr.regs x
def lendGrp (cx : Ctx) (s : Cf) (ops : Array Oper) (lo hi : Nat) : Cf :=
 { s with heap := lendL ((List.range' lo (hi - lo)).flatMap fun i => match ops[i]? with | some o => (argOps o.op).map (srcA cx s ops lo hi) | none => []) s.heap }
noncomputable def opg (cx : Ctx) (H : Heap) (av : Operand → AV) (site : Nat) (op : Op) (g : AV → New → Option R) : Option R :=
 match op with
 | .call { callee := .builtin .append, args, argTypes } => (match argTypes.toList, args.toList.map av with
   | [T, T'], [.nilsl, x] => if T = T' then (match cx.te T with
     | some { d := .slice e _, .. } => (match cx.te e with
       | some { ty := some t, zero := some _, .. } => (match toDat H (.slice t) x with
         | some ys => limA (cx.big (site % 10000000)) t (List.length ys) (g (.row site) (some (.row t ys false)))
         | none => none)
       | _ => none)
     | _ => none) else none
   | _, _ => opf cx H av site op g)
 | op => opf cx H av site op g
def isFreeG (cx : Ctx) (av : Operand → AV) (op : Op) : Bool :=
 match op with
 | .call { callee := .builtin .append, args, .. } => (match args.toList.head?.map av with | some (.full _ _) | some .nilsl => true | _ => false)
 | .slice .. => true
 | op => isFree cx av op
def lkA (mm : Memo) (w : Bool) (o : Option (den mm.val)) : AV :=
 match w, o with
 | true, some v => .tup [.dat mm.val v, .dat .bool true]
 | _, _ => .tup [.dat mm.val (dflt mm.val), .dat .bool false]
def isLk : Op → Bool
 | .lookup _ _ _ _ => true
 | _ => false
def calm1 : Op → Bool
 | .move _ | .assign _ | .pick _ _ _ | .alloc _ | .box _ _ | .nilCheck _ | .build _ _ | .buildSlice _ _ _ | .load _ _ | .store _ _ _ | .fieldAddr _ _ _ | .field _ _ _ | .indexAddr _ _ _ | .index _ _ _ | .lookup _ _ _ _ | .extract _ _ | .binOp _ _ _ _ _ | .unOp _ _ _ | .convert _ _ _ => true
 | _ => false
def lkOK (ops : Array Oper) (lo hi : Nat) : Bool :=
 !((List.range' lo (hi - lo)).any fun i => match ops[i]? with | some o => isLk o.op | none => false) || (List.range' lo (hi - lo)).all fun i => match ops[i]? with | some o => calm1 o.op | none => false
def apBase : Op → Option Nat
 | .call { callee := .builtin .append, args, .. } => (match args.toList with
   | [.tmp u, .tmp v] => cond (Nat.beq u v) none (some u)
   | [.tmp u, _] => some u
   | _ => none)
 | _ => none
def isApp : Op → Bool
 | .call { callee := .builtin .append, .. } => true
 | _ => false
def growsOn (ops : Array Oper) (i j : Nat) : Bool := match ops[i]?, ops[j]? with
 | some o, some o' => cond (isApp o'.op) (match apBase o.op, o'.dst with
   | some u, some d => Nat.beq u d
   | _, _ => false) false
 | _, _ => false
def growE (s : Cf) (ops : Array Oper) (effs : Effs) (i : Nat) (op : Op) : Option (Nat × Nat) := match apBase op with
 | some _ => effs.findSome? fun e => cond (growsOn ops i e.1) (cond (befs ops i e.1) (match (ops[e.1]?).bind (allocOf s) with
   | some a => cond (Nat.beq a e.2.1) (some (e.1, e.2.1)) none
   | none => none) none) none
 | none => none
noncomputable def growA (cx : Ctx) (H : Heap) (av : Operand → AV) (site id : Nat) (op : Op) (g : Blk → Option R) : Option R :=
 match op with
 | .call { callee := .builtin .append, args, argTypes } => (match argTypes.toList, args.toList with
   | [T, T'], [_, y] => if T = T' then (match cx.te T with
     | some { d := .slice e _, .. } => (match cx.te e with
       | some { ty := some t, zero := some _, .. } => (match toDat H (.slice t) (av y) with
         | some ys => (match hlook H id with
           | some (.row t' xs false) => (match castT (.slice t') (.slice t) xs with
             | some xs => limA (cx.big (site % 10000000)) t (List.length xs + List.length ys) (g (.row t (xs ++ ys) false))
             | none => none)
           | _ => none)
         | none => none)
       | _ => none)
     | _ => none) else none
   | _, _ => none)
 | _ => none
def hidA (h : Bool) (a : AV) : AV := cond h .any a
def isGrowE (s : Cf) (ops : Array Oper) (e : Nat × Nat × Blk) : Bool := match ops[e.1]? with
 | some o => !isStore o.op && !(match allocOf s o with | some a => Nat.beq a e.2.1 | none => false)
 | none => false
def growOK (cx : Ctx) (s : Cf) (ops : Array Oper) (lo hi : Nat) (r : Regs) (effs : Effs) : Bool :=
 effs.all fun e => !isGrowE s ops e || (((List.range' lo (hi - lo)).all fun i => match ops[i]? with
   | none => false
   | some o => (o.op.operands.all fun x => !men e.2.1 (opA cx r x)) && (Nat.beq i e.1 || (match o.dst with | some d => !men e.2.1 (look r d) | none => true))) &&
  effs.all fun e' => !menB e.2.1 e'.2.2 && (!Nat.beq e'.2.1 e.2.1 || Nat.beq e'.1 e.1 || (match (ops[e'.1]?).bind (allocOf s) with | some a => Nat.beq a e.2.1 | none => false)))
noncomputable def runGrp (cx : Ctx) (s : Cf) (ops : Array Oper) : List Nat → Regs → Heap → Effs → (Regs → Heap → Effs → Option R) → Option R
 | [], r, H, effs, k => k r H effs
 | i :: is, r, H, effs, k =>
  match ops[i]? with
  | none => none
  | some o =>
   let go (r : Regs) : Option R :=
    match o.op with
    | .store T x v => storeA cx H (opA cx r) T x v (fun id b => runGrp cx s ops is (putR s.fr.n r o.dst .top) (hset H id b) ((i, id, b) :: effs) k)
    | .lookup T x y true => (match opA cx r x with
      | .hm h t z => (match cx.memo h with
        | some mm => if mm.M = T then (match castT t (.struct mm.ts) z, toDat H mm.key (opA cx r y) with
          | some z, some q => demL (runGrp cx s ops is (putR s.fr.n r o.dst (lkA mm false none)) H effs k) (mm.f z q) (fun v => runGrp cx s ops is (putR s.fr.n r o.dst (lkA mm true (some v))) H effs k)
          | _, _ => none) else none
        | none => none)
      | _ => none)
    | op => (match growE s ops effs i op with
      | some (_, id) => growA cx H (opA cx r) (siteOf s o) id op (fun b => runGrp cx s ops is (putR s.fr.n r o.dst (.row id)) (hset H id b) ((i, id, b) :: effs) k)
      | none => cond (isFreeG cx (opA cx r) op)
        (opg cx H (opA cx r) (siteOf s o) op (fun a new => match new with
          | none => runGrp cx s ops is (putR s.fr.n r o.dst a) H effs k
          | some b => cond (allocOf s o).isSome (runGrp cx s ops is (putR s.fr.n r o.dst (hidA (is.any fun i' => growsOn ops i' i) a)) ((siteOf s o, b) :: H) ((i, siteOf s o, b) :: effs) k) none)) none)
   match o.guard with
   | none => go r
   | some (j, want) =>
    match (ops[j]?).bind (·.dst) with
    | none => none
    | some t =>
     match look r t with
     | .dat .bool b =>
       cond b (cond want (go ((t, .dat .bool true) :: r)) (runGrp cx s ops is (putR s.fr.n ((t, .dat .bool true) :: r) o.dst (.tup [])) H effs k))
           (cond want (runGrp cx s ops is (putR s.fr.n ((t, .dat .bool false) :: r) o.dst (.tup [])) H effs k) (go ((t, .dat .bool false) :: r)))
     | .tup [] => runGrp cx s ops is (putR s.fr.n r o.dst (.tup [])) H effs k
     | _ => none
def loopSite (s : Cf) (body : Code) : Nat := ((s.base + s.callers.length) * 1000 + s.fr.fn) * 10000 + 9000 + Code.first body
def forceN {α : Type} : Nat → (Nat → α) → α
 | 0, k => k 0
 | n + 1, k => forceN n (fun m => k (m + 1))
theorem forceN_eq {α : Type} : ∀ (n : Nat) (k : Nat → α), forceN n k = k n
 | 0, _ => rfl
 | n + 1, k => by simp only [forceN]; rw [forceN_eq n]
def withLoop {α : Type} (s : Cf) (body : Code) (k : Nat → α) : α := forceN (s.base + s.callers.length) fun d => forceN s.fr.fn fun f => k ((d * 1000 + f) * 10000 + 9000 + Code.first body)
theorem withLoop_eq {α : Type} (s : Cf) (body : Code) (k : Nat → α) : withLoop s body k = k (loopSite s body) := by simp only [withLoop, forceN_eq, loopSite]
def exitIt (id : Nat) : List It → Option (List It)
 | .inBlock id' :: k => if id' == id then some k else exitIt id k
 | _ :: k => exitIt id k
 | [] => none
def gotoIt (l : Nat) : List It → Option (List It)
 | .inScope body :: k => (match findLabel body l with
   | some rest => some (.code rest :: .inScope body :: k)
   | none => gotoIt l k)
 | _ :: k => gotoIt l k
 | [] => none
def resA (cx : Ctx) (s : Cf) : List ResultVar → Option (List AV)
 | [] => some []
 | .tmp t :: r => (match resA cx s r with | some l => some (argA (look s.fr.regs t) :: l) | none => none)
 | .cell a T :: r => (match look s.fr.regs a, cx.te T with
   | .ptr id [], some te => (match hlook s.heap id with
     | some (.box b _) => if cells b = te.size && b.isAgg == te.agg then (match resA cx s r with | some l => some (b :: l) | none => none) else none
     | _ => none)
   | _, _ => none)
def curOp : It → Option (Array Oper × Nat × It)
 | .inRegion ops (i :: is) => some (ops, i, .inRegion ops is)
 | .inDrawAt ops lo => some (ops, lo, .inDraw ops (lo + 1))
 | _ => none
def goOn (s : Cf) (f : Fr) (cs : List Fr) (a : AV) (k : Cf → Option R) : Option R :=
 match f.todo with
 | it :: rest => (match curOp it with
   | some (ops, i, nxt) => k { fr := { f with regs := putR f.n f.regs ((ops[i]?).bind (·.dst)) a, todo := nxt :: rest }, callers := cs, heap := s.heap, base := s.base }
   | none => (match it with
     | .inRangeFunc g => k { fr := { f with todo := .endRangeFunc g :: rest }, callers := cs, heap := s.heap, base := s.base }
     | _ => none))
 | [] => none
def shutAll (H : Heap) : List Nat → Option Heap
 | [] => some H
 | g :: r => (match hlook H g with
   | some (.dfr false) => shutAll (hset H g (.dfr true)) r
   | _ => none)
def settle1 (H : Heap) (a : AV) : AV := match a with
 | .row id => (match hlook H id with
   | some (.row t xs true) => .dat (.slice t) xs
   | _ => a)
 | .sub id lo len => (match hlook H id with
   | some (.row t xs true) => .dat (.slice t) (List.take len (List.drop lo xs))
   | _ => a)
 | a => a
def settle (H : Heap) : AV → AV
 | .tup as => .tup (as.map (settle1 H))
 | a => settle1 H a
def leave (cx : Ctx) (s : Cf) (jump : Option Code) (k : Cf → Option R) (out : AV → Heap → Option R) : Option R :=
 match s.fr.round with
 | some g => (match hlook s.heap g, s.callers with
   | some (.loop _ _ _ fn nt r p x y d), f :: cs =>
     goOn { s with heap := hset s.heap g (.loop jump.isSome jump false fn nt r p x y d) } f cs (.dat .bool jump.isNone) k
   | _, _ => none)
 | none => (match jump with
   | some .ret | none => (match cx.P.funcs[s.fr.fn]? with
     | some fn => (match shutAll s.heap s.fr.defers with
       | some H => (match resA cx { s with heap := H } fn.results.toList with
         | some as => (match s.callers with
           | [] => out (tupA as) H
           | f :: cs => cond (cx.keep s.fr.fn) (goOn { s with heap := H } f cs (tupA as) k) (goOn { s with heap := lendA (tupA as) H } f cs (settle (lendA (tupA as) H) (tupA as)) k))
         | none => none)
       | none => none)
     | none => none)
   | _ => none)
def setTodo (s : Cf) (t : List It) : Cf := { s with fr := { s.fr with todo := t } }
def findM (cx : Ctx) (M : TypeId) : Nat → Nat → Option (Nat × Memo)
 | 0, _ => none
 | n + 1, h => (match cx.memo h with
   | some mm => if mm.M = M then some (h, mm) else findM cx M n (h + 1)
   | none => findM cx M n (h + 1))
def isMk (ops : Array Oper) (i : Nat) : Bool := match ops[i]? with
 | some o => (match o.op with | .makeMap _ _ => true | _ => false)
 | none => false
def mkArgs (cx : Ctx) (s : Cf) (op : Op) : List AV := match op with
 | .build _ ps => ps.toList.dropLast.map fun p => opA cx s.fr.regs p.2
 | _ => []
def mkm (cx : Ctx) (s : Cf) (ops : Array Oper) (i : Nat) (is : List Nat) (t : List It) (k : Cf → Option R) : Option R :=
 match ops[i]? with
 | some o => (match o.op, o.guard with
   | .makeMap M none, none => (match findM cx M 8 0 with
     | some (h, mm) =>
      let as := mkArgs cx s (((is.head?).bind (ops[·]?)).elim (.defer { callee := .builtin .len, args := #[], argTypes := #[] }) (·.op))
      (match toDatL (lendL as s.heap) mm.ts as with
        | some y => k (fin s o (.inRegion ops is) t (.hm h (.struct mm.ts) y) (lendL as s.heap))
        | none => none)
     | none => none)
   | _, _ => none)
 | none => none
noncomputable def step (cx : Ctx) (s : Cf) (k : Cf → Option R) (out : AV → Heap → Option R) : Option R :=
 match s.fr.todo with
 | [] => leave cx s none k out
 | .inBlock _ :: t | .inScope _ :: t => k (setTodo s t)
 | .inLoop b :: t => k (setTodo s (.code b :: .inLoop b :: t))
 | .inRegion _ [] :: t => k (setTodo s t)
 | .inRegion ops (i :: is) :: t => cond (isMk ops i) (mkm cx s ops i is t k) (oper cx s ops i (.inRegion ops is) t k)
 | .inDrawAt _ _ :: _ => none
 | .inDraw ops lo :: t => cond (Nat.beq lo ops.size) (k (setTodo s t)) (
   let hi := nextB ops lo
   cond (Nat.beq hi (lo + 1)) (oper cx (setTodo s (.inDrawAt ops lo :: t)) ops lo (.inDraw ops (lo + 1)) t k) (
   let ids := allocsOf s ops lo hi
   if drawOK ops s.fr.n lo hi && apartOK s ops lo hi && ids.all (fun id => !usesS id s) && lkOK ops lo hi then
    let s := lendGrp cx (purgeAll s ids) ops lo hi
    runGrp cx s ops (List.range' lo (hi - lo)) s.fr.regs s.heap [] (fun r H effs =>
     if (drawMen s ops lo hi r effs && setsOK cx s ops lo hi r effs) && growOK cx s ops lo hi r effs then k { s with fr := { s.fr with regs := r, todo := .inDraw ops hi :: t }, heap := H } else none)
   else none))
 | .beginRound :: t => (match s.fr.round with
   | some g => (match hlook s.heap g with
     | some (.loop false j false fn nt r p x y d) => k { setTodo s t with heap := hset s.heap g (.loop false j true fn nt r p x y d) }
     | _ => none)
   | none => none)
 | .inRangeFunc _ :: _ => none
 | .endRangeFunc g :: t => (match hlook s.heap g with
   | some (.loop _ j false fn nt r p x y d) => k { setTodo s ((j.map It.code).toList ++ t) with heap := hset s.heap g (.loop true j false fn nt r p x y d) }
   | _ => none)
 | .code c :: t => match c with
   | .skip | .label _ => k (setTodo s t)
   | .seq a b => k (setTodo s (.code a :: .code b :: t))
   | .cond x a b => (match opA cx s.fr.regs x with
     | .dat .bool v => cond v (k (setTodo s (.code a :: t))) (k (setTodo s (.code b :: t)))
     | _ => none)
   | .block id b => k (setTodo s (.code b :: .inBlock id :: t))
   | .loop b => k (setTodo s (.inLoop b :: t))
   | .scope b => k (setTodo s (.code b :: .inScope b :: t))
   | .exit id => (match exitIt id t with
     | some t' => k (setTodo s t')
     | none => leave cx s (some (.exit id)) k out)
   | .goto l => (match gotoIt l t with
     | some t' => k (setTodo s t')
     | none => leave cx s (some (.goto l)) k out)
   | .ret => leave cx s (some .ret) k out
   | .refuse _ => none
   | .region _ ops false => k (setTodo s (.inRegion ops (List.range ops.size) :: t))
   | .region _ ops true => cond (edgeOK ops) (k (setTodo s (.inDraw ops 0 :: t))) none
   | .rangeFunc f params assign body => (match opA cx s.fr.regs f with
     | .fn n fs cs =>
       withLoop s body fun site => (match cx.P.funcs[n]? with
       | some fn => (match fn.body, s.fr.round with
         | some c, none => cond (!cx.inl n || (cx.con n).isSome || usesS site s || Nat.blt fn.ntmps (fs.length + 1 + cs.length)) none (
           let s' := purgeS site s
           k { fr := { fn := n, n := fn.ntmps, regs := (List.range (fs.length + 1 + cs.length)).zip (purgeL site fs ++ [.yld site] ++ purgeL site cs), todo := [.code c], round := none, defers := [] },
               callers := { s'.fr with todo := .inRangeFunc site :: t } :: s'.callers,
               heap := (site, .loop false none false s.fr.fn s.fr.n s'.fr.regs params.toList assign body 0) :: s'.heap, base := s'.base })
         | some c, some g => (match hlook s.heap g with
           | some (.loop ..) => cond (!cx.inl n || (cx.con n).isSome || usesS site s || Nat.blt fn.ntmps (fs.length + 1 + cs.length)) none (
             let s' := purgeS site s
             k { fr := { fn := n, n := fn.ntmps, regs := (List.range (fs.length + 1 + cs.length)).zip (purgeL site fs ++ [.yld site] ++ purgeL site cs), todo := [.code c], round := none, defers := [] },
                 callers := { s'.fr with todo := .inRangeFunc site :: t } :: s'.callers,
                 heap := (site, .loop false none false s.fr.fn s.fr.n s'.fr.regs params.toList assign body 0) :: s'.heap, base := s'.base })
           | _ => none)
         | none, _ => none)
       | none => none)
     | _ => none)
end
inductive Leaf where
 | cut (s : Cf)
 | out (a : AV) (H : Heap)
noncomputable def exec {R : Type} (cx : Ctx) (cut : Cf → Bool) (g : Leaf → Option R) : Nat → Cf → Option R
 | 0, _ => none
 | n + 1, s => step cx s (fun s' => if cut s' then g (.cut s') else exec cx cut g n s') (fun a H => g (.out a H))
end Go.Gh
/- The ghost machine: segments between cut points. Definitions alone. Conditions: none. -/
namespace Go.Gh
def firstOf : List It → Nat × Nat
 | .inLoop b :: _ => (Code.first b, 1)
 | .code (.seq a _) :: _ => (Code.first a, 2)
 | .code (.region id _ _) :: _ => (id, 3)
 | _ => (100000, 0)
def standOf : List It → Nat
 | [] => 1
 | .code c :: _ => Nat.add (Code.first c) 2
 | .inLoop b :: _ => Nat.add (Code.first b) 2
 | _ :: r => standOf r
def underOf : List Fr → Nat
 | [] => 0
 | f :: r => Nat.add (Nat.mul (underOf r) 1000003) (standOf f.todo)
def fnsOf : Heap → Nat
 | [] => 0
 | (_, .box (.fn f _ _) _) :: r => Nat.add (Nat.mul (fnsOf r) 1009) f
 | _ :: r => fnsOf r
def keyOf (c : Cf) : Nat × Nat × Nat × Nat := (Nat.add (Nat.mul (fnsOf c.heap) 1000000000000000000039) (underOf c.callers), c.fr.fn, (firstOf c.fr.todo).1, (firstOf c.fr.todo).2)
def eqKey (a b : Nat × Nat × Nat × Nat) : Bool := Nat.beq a.1 b.1 && Nat.beq a.2.1 b.2.1 && Nat.beq a.2.2.1 b.2.2.1 && Nat.beq a.2.2.2 b.2.2.2
def eqFns : List FSpec → List Fr → Bool
 | [], [] => true
 | f :: fs, g :: gs => Nat.beq f.fn g.fn && eqFns fs gs
 | _, _ => false
def findKey (k : Nat × Nat × Nat × Nat) (fs : List Fr) : List Spec → Nat → Option Nat
 | [], _ => none
 | s :: r, n => cond (eqKey s.key k && eqFns s.frs fs) (some n) (findKey k fs r (n + 1))
def specAt (l : List Spec) (n : Nat) : Spec := l.getD n { key := (0, 0, 0, 0), frs := [], heap := [] }
def outs : AV → Option (List AV)
 | .tup [_] => none
 | .tup as => some as
 | a => some [a]
def hasMark (l : List Spec) : Bool := l.any fun s => Nat.beq s.key.1 99999
def isRowA : AV → Bool
 | .row _ | .nilsl => true
 | _ => false
def apartA : AV → AV → Bool
 | .row i, .row j => !Nat.beq i j
 | _, _ => true
def frOK (m : Bool) (res : List Ty) (as : List AV) : Bool :=
 cond m (match res, as with
  | .slice _ :: .slice _ :: _, a :: b :: _ => isRowA a && isRowA b && apartA a b
  | _, a :: _ => isRowA a
  | _, _ => false) true
def leafK {R : Type} (l : List Spec) (res : List Ty) (fin : denL res → Option R) (G : (n : Nat) → Kept → denK (specAt l n) → Option R) : Leaf → Option R
 | .cut c => match findKey (keyOf c) (c.fr :: c.callers) l 0 with
  | some m => (match decK (specAt l m) (fixC (specAt l m) c) with
    | some y => G m (keptOf (specAt l m) (fixC (specAt l m) c)) y
    | none => none)
  | none => none
 | .out a H => match outs a with
  | some as => cond (frOK (hasMark l) res as) (match toDatL (lendA a H) res as with
   | some y => fin y
   | none => none) none
  | none => none
def cutAt (l : List Spec) (c : Cf) : Bool := (findKey (keyOf c) (c.fr :: c.callers) l 0).isSome
noncomputable def seg {R : Type} (cx : Ctx) (l : List Spec) (res : List Ty) (fuel : Nat) (fin : denL res → Option R) (G : (n : Nat) → Kept → denK (specAt l n) → Option R) (n : Nat) (kp : Kept) (x : denK (specAt l n)) : Option R :=
 exec cx (cutAt l) (leafK l res fin G) fuel (fillK (specAt l n) kp x)
def entryCf (f : FuncId) (n : Nat) (c : Code) (ts : List Ty) (x : denL ts) : Cf :=
 { fr := { fn := f, n, regs := (List.range ts.length).zip (datAVs ts x), todo := [.code c], round := none, defers := [] }, callers := [], heap := [] }
noncomputable def enter {R : Type} (cx : Ctx) (l : List Spec) (res : List Ty) (fuel : Nat) (fin : denL res → Option R) (G : (n : Nat) → Kept → denK (specAt l n) → Option R) (f : FuncId) (ts : List Ty) (x : denL ts) : Option R :=
 match cx.P.funcs[f]? with
 | some fn => (match fn.body with
  | some c => cond (Nat.ble ts.length fn.ntmps) (exec cx (cutAt l) (leafK l res fin G) fuel (entryCf f fn.ntmps c ts x)) none
  | none => none)
 | none => none
noncomputable def iter (cx : Ctx) (l : List Spec) (res : List Ty) (fuel : Nat) : Nat → (n : Nat) → Kept → denK (specAt l n) → Option (denL res)
 | 0, _, _, _ => none
 | k + 1, n, kp, x => seg cx l res fuel some (iter cx l res fuel k) n kp x
end Go.Gh
/- The ghost machine: how a ghost configuration stands to a machine. Conditions: none (definitions, and lemmas on them). -/
namespace Go.Gh
structure Base where
 cx : Ctx
 w0 : World
 Fo : Nat → Nat → Prop
 M0 : Nat → Option (Nat × Sigma den)
 E0 : Env
 base : Nat
def ownB (j : Nat) : Blk → Prop
 | .box _ f => f = false
 | .row t xs l => l = true → List.length xs * size t ≤ j
 | _ => False
def Own (ρ : Nat → Option Nat) (H : Heap) (k j : Nat) : Prop := ∃ id b, hlook H id = some b ∧ ρ id = some k ∧ ownB j b
def RegsOK (E : Env) (r : Regs) (n : Nat) (tmps : Array Value) : Prop := tmps.size = n ∧ ∀ t, CV E (look r t) (tmps.getD t undef)
def loopState (s : LoopState) (done busy : Bool) : Prop :=
 if busy then s = .busy else if done then s ≠ .busy else s = .ready
def BOK (B : Base) (E : Env) (id : Nat) : Blk → Prop
 | .box a _ => ∃ k arr e, E.ρ id = some k ∧ B.w0.heap.size ≤ k ∧ E.m.w.heap[k]? = some (.cells arr e (0, 0)) ∧ CC E a arr.toList
 | .row t xs _ => (E.ρ id = none ∧ xs = []) ∨ ∃ k arr e es, E.ρ id = some k ∧ B.w0.heap.size ≤ k ∧ E.m.w.heap[k]? = some (.cells arr e (0, 0)) ∧ Rows (Enc E.m t) xs es ∧ es <+: arr.toList
 | .loop done jump busy fn n r ps x y _ => ∃ k kd st tmps, E.ρ id = some k ∧ B.w0.heap.size ≤ k ∧ True ∧ loopState st done busy ∧ RegsOK E r n tmps ∧
   E.m.w.heap[k]? = some (.loop { state := st, pending := jump, fn, tmps, params := ps.toArray, assign := x, body := y, defers := kd })
 | .dfr _ => False
def EV (m : Mem) (t : Ty) (x : den t) (v : Value) : Prop := ∃ cs, Enc m t x cs ∧ ofCells t.isAgg cs v
def MemoOK (B : Base) (E : Env) : Prop := ∀ km i t y, E.m.M km = some (i, ⟨t, y⟩) → ∃ es clock mm x, E.m.w.heap[km]? = some (.map es clock) ∧
 B.cx.memo i = some mm ∧ castT t (.struct mm.ts) y = some x ∧
 ∀ e ∈ es, ∃ kx vx, EV E.m mm.key kx e.key ∧ EV E.m mm.val vx e.val ∧ mm.f x kx = some vx
structure Ext (w0 w : World) (M0 : Nat → Option (Nat × Sigma den)) : Prop where
 size : w0.heap.size ≤ w.heap.size
 os : w.os = w0.os
 tape : w.tape = w0.tape
 output : w.output = w0.output
 same : ∀ k, k < w0.heap.size → w.heap[k]? = w0.heap[k]? ∨ (M0 k).isSome = true
def DKeep (w w' : World) : Prop := ∀ (k : Nat), w.heap[k]? = some (Obj.deferred (some [])) → w'.heap[k]? = some (Obj.deferred (some []))
def codesAt (H : Heap) (id : Nat) : Option (Code × Code) := match hlook H id with
 | some (.loop _ _ _ _ _ _ _ x y _) => some (x, y)
 | _ => none
def Idle (E : Env) (k : Nat) : Prop := ∀ id b, hlook E.H id = some b → E.ρ id ≠ some k
structure Stays (n : Nat) (E E' : Env) : Prop where
 le : E.m.le E'.m
 goes : ∀ id, id < n → Goes E E' id
 rho : ∀ id, id < n → E'.ρ id = E.ρ id
 codes : ∀ id c, id < n → codesAt E'.H id = some c → codesAt E.H id = some c
 dk : DKeep E.m.w E'.m.w
 grow : E.m.w.heap.size ≤ E'.m.w.heap.size
 idle : ∀ k, k < E.m.w.heap.size → Idle E k → Idle E' k ∧ ∀ o, E.m.w.heap[k]? = some o → (∀ es c, o ≠ .map es c) → E'.m.w.heap[k]? = some o
theorem Goes.refl (E : Env) (id : Nat) : Goes E E id := fun b hb => ⟨b, hb, rfl, rfl, fun _ xs l e => ⟨xs, l, e, rfl⟩⟩
theorem Goes.trans {E E' E'' : Env} {id : Nat} (h : Goes E E' id) (h' : Goes E' E'' id) : Goes E E'' id := by
 intro b'' hb''
 obtain ⟨b', h1, h2, h3, h4⟩ := h' b'' hb''
 obtain ⟨b, g1, g2, g3, g4⟩ := h b' h1
 refine ⟨b, g1, by rw [h2, g2], by rw [h3, g3], fun t xs l e => ?_⟩
 obtain ⟨xs1, l1, e1, q1⟩ := h4 t xs l e
 obtain ⟨xs0, l0, e0, q0⟩ := g4 t xs1 l1 e1
 exact ⟨xs0, l0, e0, by rw [q0, q1]⟩
theorem Stays.refl (n : Nat) (E : Env) : Stays n E E := ⟨Mem.le.refl _, fun id _ => Goes.refl E id, fun _ _ => rfl, fun _ _ _ h => h, fun _ h => h, Nat.le_refl _, fun _ _ h => ⟨h, fun _ ho _ => ho⟩⟩
theorem Stays.trans {n : Nat} {E E' E'' : Env} (h : Stays n E E') (h' : Stays n E' E'') : Stays n E E'' :=
 ⟨h.le.trans h'.le, fun id hi => (h.goes id hi).trans (h'.goes id hi), fun id hi => by rw [h'.rho id hi, h.rho id hi], fun id c hi hc => h.codes id c hi (h'.codes id c hi hc), fun k hk => h'.dk k (h.dk k hk), Nat.le_trans h.grow h'.grow, fun k hk hi => let ⟨p, q⟩ := h.idle k hk hi; let ⟨p', q'⟩ := h'.idle k (Nat.lt_of_lt_of_le hk h.grow) p; ⟨p', fun o ho hm => q' o (q o ho hm) hm⟩⟩
theorem Stays.mono {n m : Nat} {E E' : Env} (h : Stays n E E') (hm : m ≤ n) : Stays m E E' :=
 ⟨h.le, fun id hi => h.goes id (Nat.lt_of_lt_of_le hi hm), fun id hi => h.rho id (Nat.lt_of_lt_of_le hi hm), fun id c hi => h.codes id c (Nat.lt_of_lt_of_le hi hm), h.dk, h.grow, h.idle⟩
abbrev Base.bound (B : Base) : Nat := B.base * 10000000
structure StateOK (B : Base) (E : Env) : Prop where
 wri : ∀ k j, E.m.Mut k j ↔ B.Fo k j ∨ Own E.ρ E.H k j
 fo : (∀ k j, B.Fo k j → k < B.E0.m.w.heap.size) ∧ ∀ id b k j, hlook E.H id = some b → E.ρ id = some k → ¬ B.Fo k j
 inj : ∀ id id' b b' k, hlook E.H id = some b → hlook E.H id' = some b' → E.ρ id = some k → E.ρ id' = some k → id = id'
 blk : ∀ id b, hlook E.H id = some b → BOK B E id b
 memo : MemoOK B E
 ext : Ext B.w0 E.m.w B.M0
 reg : ∀ k x, B.M0 k = some x → E.m.M k = some x
 late : ∀ k x, E.m.M k = some x → B.M0 k = none → B.w0.heap.size ≤ k
 glob : ∀ g, CV E (B.cx.glob g) (.pointer (some ⟨g, 0, none⟩))
 globm : ∀ g id, men id (B.cx.glob g) = false
 since : Stays B.bound B.E0 E
 size0 : B.w0.heap.size ≤ B.E0.m.w.heap.size
theorem hlook_hset_same : ∀ {H : Heap} {i : Nat} {b c : Blk}, hlook H i = some b → hlook (hset H i c) i = some c
 | [], _, _, _, h => by simp [hlook] at h
 | (j, d) :: r, i, b, c, h => by
  simp only [hset]
  split
  ·rename_i e; simp [hlook, e]
  ·rename_i e; simp only [hlook, if_neg e] at h ⊢; exact hlook_hset_same h
theorem hlook_hset_other : ∀ {H : Heap} {i j : Nat} {c : Blk}, i ≠ j → hlook (hset H i c) j = hlook H j
 | [], _, _, _, _ => rfl
 | (k, d) :: r, i, j, c, h => by
  simp only [hset]
  split
  ·rename_i e; subst e; simp [hlook, h]
  ·simp only [hlook]; split <;> simp_all [hlook_hset_other]
theorem hlook_purgeH_same : ∀ {H : Heap} {i : Nat}, hlook (purgeH i H) i = none
 | [], _ => rfl
 | (k, d) :: r, i => by
  simp only [purgeH]
  split
  ·exact hlook_purgeH_same
  ·rename_i e; simp only [hlook, if_neg e]; exact hlook_purgeH_same
theorem hlook_purgeH_other : ∀ {H : Heap} {i j : Nat}, i ≠ j → hlook (purgeH i H) j = (hlook H j).map (purgeB i)
 | [], _, _, _ => rfl
 | (k, d) :: r, i, j, h => by
  simp only [purgeH]
  split
  ·rename_i e; subst e; simp only [hlook, if_neg h]; exact hlook_purgeH_other h
  ·simp only [hlook]; split <;> simp_all [hlook_purgeH_other]
mutual
theorem men_purge (i : Nat) : (a : AV) → ∀ j, men j (purgeA i a) = true → j ≠ i ∧ men j a = true
 | .agg fs, j, h => by simp only [purgeA, men] at *; exact menL_purge i fs j h
 | .arrL fs, j, h => by simp only [purgeA, men] at *; exact menL_purge i fs j h
 | .tup fs, j, h => by simp only [purgeA, men] at *; exact menL_purge i fs j h
 | .ptr k p, j, h => by simp only [purgeA] at h; split at h <;> simp_all [men]
 | .row k, j, h => by simp only [purgeA] at h; split at h <;> simp_all [men]
 | .sub k _ _, j, h => by simp only [purgeA] at h; split at h <;> simp_all [men]
 | .yld k, j, h => by simp only [purgeA] at h; split at h <;> simp_all [men]
 | .fn f fs cs, j, h => by
  simp only [purgeA, men, Bool.or_eq_true] at *
  rcases h with h | h
  ·have := menL_purge i fs j h; exact ⟨this.1, .inl this.2⟩
  ·have := menL_purge i cs j h; exact ⟨this.1, .inr this.2⟩
 | .dat _ _, j, h | .cptr _ _, j, h | .hp _ _ _, j, h | .full _ _, j, h | .hmp _ _ _, j, h | .hm _ _ _, j, h | .nilsl, j, h | .nilp, j, h | .nilf, j, h | .nilm, j, h | .any, j, h | .top, j, h => by simp [purgeA, men] at h
theorem menL_purge (i : Nat) : (as : List AV) → ∀ j, menL j (purgeL i as) = true → j ≠ i ∧ menL j as = true
 | [], j, h => by simp [purgeL, menL] at h
 | a :: as, j, h => by
  simp only [purgeL, menL, Bool.or_eq_true] at *
  rcases h with h | h
  ·have := men_purge i a j h; exact ⟨this.1, .inl this.2⟩
  ·have := menL_purge i as j h; exact ⟨this.1, .inr this.2⟩
end
mutual
theorem skA_purge (i : Nat) : (a : AV) → skA (purgeA i a) = skA a
 | .agg fs => by simp only [purgeA, skA, skAL_purge i fs]
 | .arrL fs => by simp only [purgeA, skA, skAL_purge i fs]
 | .tup fs => by simp only [purgeA, skA]
 | .ptr k p => by simp only [purgeA]; split <;> simp [skA]
 | .row k => by simp only [purgeA]; split <;> simp [skA]
 | .sub k _ _ => by simp only [purgeA]; split <;> simp [skA]
 | .yld k => by simp only [purgeA]; split <;> simp [skA]
 | .fn f fs cs => by simp only [purgeA, skA]
 | .dat _ _ | .cptr _ _ | .hp _ _ _ | .full _ _ | .hmp _ _ _ | .hm _ _ _ | .nilsl | .nilp | .nilf | .nilm | .any | .top => by simp only [purgeA]
theorem skAL_purge (i : Nat) : (as : List AV) → skAL (purgeL i as) = skAL as
 | [] => rfl
 | a :: as => by simp only [purgeL, skAL, skA_purge i a, skAL_purge i as]
end
theorem skB_purge (i : Nat) (b : Blk) : skB (purgeB i b) = skB b := by
 cases b <;> simp [purgeB, skB, skA_purge]
theorem isAgg_purge (i : Nat) (a : AV) : (purgeA i a).isAgg = a.isAgg := by
 cases a <;> simp only [purgeA] <;> first | rfl | (split <;> rfl)
theorem isTop_purge (i : Nat) (a : AV) : (purgeA i a).isTop = a.isTop := by
 cases a <;> simp only [purgeA] <;> first | rfl | (split <;> rfl)
mutual
theorem CC.purge {E : Env} (i : Nat) : (a : AV) → ∀ {cs : List Value}, CC E a cs → CC E (purgeA i a) cs
 | .agg fs, cs, h => by simp only [purgeA]; unfold CC at *; exact CCL.purge i fs h
 | .arrL fs, cs, h => by simp only [purgeA]; unfold CC at *; exact CCL.purge i fs h
 | .tup fs, cs, h => by unfold CC at h; exact h.elim
 | .ptr k p, cs, h => by
  simp only [purgeA]
  split
  ·unfold CC at *; obtain ⟨v, h1, h2, _⟩ := h; exact ⟨v, h1, h2⟩
  ·exact h
 | .row k, cs, h => by
  simp only [purgeA]
  split
  ·unfold CC at *; obtain ⟨v, h1, h2, _⟩ := h; exact ⟨v, h1, h2⟩
  ·exact h
 | .sub k _ _, cs, h => by
  simp only [purgeA]
  split
  ·unfold CC at *; obtain ⟨v, h1, h2, _⟩ := h; exact ⟨v, h1, h2⟩
  ·exact h
 | .yld k, cs, h => by
  simp only [purgeA]
  split
  ·unfold CC at *; obtain ⟨v, h1, h2, _⟩ := h; exact ⟨v, h1, h2⟩
  ·exact h
 | .fn f fs us, cs, h => by
  simp only [purgeA]; unfold CC at *
  obtain ⟨vs, ws, h1, h2, h3⟩ := h
  exact ⟨vs, ws, h1, CVL.purge i fs h2, CVL.purge i us h3⟩
 | .dat _ _, _, h | .cptr _ _, _, h | .hp _ _ _, _, h | .full _ _, _, h | .hmp _ _ _, _, h | .hm _ _ _, _, h | .nilsl, _, h | .nilp, _, h | .nilf, _, h | .nilm, _, h | .any, _, h | .top, _, h => by simpa only [purgeA] using h
theorem CCL.purge {E : Env} (i : Nat) : (as : List AV) → ∀ {cs : List Value}, CCL E as cs → CCL E (purgeL i as) cs
 | [], cs, h => by simpa only [purgeL] using h
 | a :: as, cs, h => by
  simp only [purgeL]; unfold CCL at *
  obtain ⟨x, y, h1, h2, h3⟩ := h
  exact ⟨x, y, h1, CC.purge i a h2, CCL.purge i as h3⟩
theorem CVL.purge {E : Env} (i : Nat) : (as : List AV) → ∀ {vs : List Value}, CVL E as vs → CVL E (purgeL i as) vs
 | [], cs, h => by simpa only [purgeL] using h
 | a :: as, cs, h => by
  simp only [purgeL]; unfold CVL at *
  obtain ⟨v, us, h1, h2, h3⟩ := h
  exact ⟨v, us, h1, by rw [isAgg_purge, isTop_purge]; exact h2.imp (fun ⟨cs, p, q⟩ => ⟨cs, CC.purge i a p, q⟩) id, CVL.purge i as h3⟩
end
theorem CV.purge {E : Env} (i : Nat) {a : AV} {v : Value} (h : CV E a v) : CV E (purgeA i a) v := by
 cases a with
 | top => trivial
 | tup fs => obtain ⟨vs, h1, h2⟩ := h; exact ⟨vs, h1, CVL.purge i fs h2⟩
 | _ =>
  obtain ⟨cs, h1, h2⟩ := h
  exact CV.mk (CC.purge i _ h1) (by rw [isAgg_purge]; exact h2)
theorem look_purgeR (i : Nat) : ∀ (r : Regs) (t : Nat), look (purgeR i r) t = purgeA i (look r t)
 | [], _ => rfl
 | (u, a) :: r, t => by simp only [purgeR, look]; split <;> simp [look_purgeR i r t]
theorem RegsOK.to {E E' : Env} (h : E.m.le E'.m) {r : Regs} {n : Nat} {tmps : Array Value} (hm : ∀ id t, men id (look r t) = true → Goes E E' id) (c : RegsOK E r n tmps) : RegsOK E' r n tmps :=
 ⟨c.1, fun t => CV.to h (fun id hi => hm id t hi) (c.2 t)⟩
def menBlk (id : Nat) : Blk → Prop
 | .box a _ => men id a = true
 | .loop _ _ _ _ _ r _ _ _ d => (∃ t, men id (look r t) = true) ∨ id = d
 | _ => False
theorem BOK.to {B : Base} {E E' : Env} (h : E.m.le E'.m) {id : Nat} {b : Blk} (hm : ∀ j, menBlk j b → Goes E E' j) (hd : ∀ x jmp y fn n r ps p q d, b = .loop x jmp y fn n r ps p q d → E'.ρ d = E.ρ d)
  (hr : E'.ρ id = E.ρ id) (hw : ∀ k, E.ρ id = some k → E'.m.w.heap[k]? = E.m.w.heap[k]?) (c : BOK B E id b) : BOK B E' id b := by
 cases b with
 | box a f =>
  obtain ⟨k, arr, e, h1, h2, h3, h4⟩ := c
  exact ⟨k, arr, e, by rw [hr, h1], h2, by rw [hw k h1, h3], CC.to h a (fun j hj => hm j hj) h4⟩
 | row t xs l =>
  rcases c with ⟨h1, h2⟩ | ⟨k, arr, e, es, h1, h2, h3, h4, h5⟩
  ·exact .inl ⟨by rw [hr, h1], h2⟩
  ·exact .inr ⟨k, arr, e, es, by rw [hr, h1], h2, by rw [hw k h1, h3], h4.mono fun x cs p => Enc.mono h t p, h5⟩
 | loop x jmp y fn n r ps p q d =>
  obtain ⟨k, kd, st, tmps, h1, h2, h3, h4, h5, h6⟩ := c
  exact ⟨k, kd, st, tmps, by rw [hr, h1], h2, h3, h4, h5.to h (fun j t hj => hm j (.inl ⟨t, hj⟩)), by rw [hw k h1, h6]⟩
 | dfr sh => exact c
theorem EV.mono {m m' : Mem} (h : m.le m') {t : Ty} {x : den t} {v : Value} (c : EV m t x v) : EV m' t x v :=
 let ⟨cs, p, q⟩ := c; ⟨cs, Enc.mono h t p, q⟩
theorem MemoOK.to {B : Base} {E E' : Env} (h : E.m.le E'.m) (hM : E'.m.M = E.m.M) (hw : ∀ km x, E.m.M km = some x → E'.m.w.heap[km]? = E.m.w.heap[km]?) (c : MemoOK B E) : MemoOK B E' := by
 intro km i t y hk
 rw [hM] at hk
 obtain ⟨es, clock, mm, x, h1, h2, h3, h4⟩ := c km i t y hk
 exact ⟨es, clock, mm, x, by rw [hw km _ hk, h1], h2, h3, fun e he => let ⟨kx, vx, p, q, s⟩ := h4 e he; ⟨kx, vx, p.mono h, q.mono h, s⟩⟩
end Go.Gh
/- The ghost machine: the moves of its state: a new block, a write, less known, a call's return. Conditions: none. -/
namespace Go.Gh
def upd (ρ : Nat → Option Nat) (id : Nat) (q : Option Nat) : Nat → Option Nat := fun i => if i = id then q else ρ i
theorem upd_same {ρ : Nat → Option Nat} {id : Nat} {q : Option Nat} : upd ρ id q id = q := by simp [upd]
theorem upd_other {ρ : Nat → Option Nat} {id i : Nat} {q : Option Nat} (h : i ≠ id) : upd ρ id q i = ρ i := by simp [upd, h]
theorem cell_block {w w' : World} {k : Nat} (h : w'.heap[k]? = w.heap[k]?) (j : Nat) : w'.cell? ⟨k, j, none⟩ = w.cell? ⟨k, j, none⟩ := by
 simp only [World.cell?, h]
theorem shape_block {w w' : World} {k : Nat} (h : w'.heap[k]? = w.heap[k]?) : w'.shape? k = w.shape? k := by
 simp only [World.shape?, h]
theorem cell_lt {w : World} {k j : Nat} {v : Value} (h : w.cell? ⟨k, j, none⟩ = some v) : k < w.heap.size := by
 simp only [World.cell?] at h
 split at h
 ·rename_i hk
  exact (Array.getElem?_eq_some_iff.1 hk).1
 ·cases h
theorem shape_lt {w : World} {k : Nat} {x : TypeId × Nat} (h : w.shape? k = some x) : k < w.heap.size := by
 simp only [World.shape?] at h
 split at h
 ·rename_i hk
  exact (Array.getElem?_eq_some_iff.1 hk).1
 ·cases h
theorem lt_of_some {α : Type} {a : Array α} {k : Nat} {x : α} (h : a[k]? = some x) : k < a.size := (Array.getElem?_eq_some_iff.1 h).1
theorem BOK.lt {B : Base} {E : Env} {id : Nat} {b : Blk} (h : BOK B E id b) {k : Nat} (hk : E.ρ id = some k) : B.w0.heap.size ≤ k ∧ k < E.m.w.heap.size := by
 cases b with
 | box a f => obtain ⟨k', arr, e, h1, h2, h3, _⟩ := h; rw [hk] at h1; cases h1; exact ⟨h2, lt_of_some h3⟩
 | row t xs l =>
  rcases h with ⟨h1, _⟩ | ⟨k', arr, e, es, h1, h2, h3, _⟩
  ·rw [hk] at h1; cases h1
  ·rw [hk] at h1; cases h1; exact ⟨h2, lt_of_some h3⟩
 | loop x jmp y fn n r ps p q d => obtain ⟨k', kd, st, tmps, h1, h2, h3, h4, h5, h6⟩ := h; rw [hk] at h1; cases h1; exact ⟨h2, lt_of_some h6⟩
 | dfr sh => exact h.elim
theorem ownB_purge (i j : Nat) (b : Blk) : ownB j (purgeB i b) ↔ ownB j b := by cases b <;> simp [purgeB, ownB]
theorem row_purge {i : Nat} {b : Blk} {t : Ty} {xs : List (den t)} {l : Bool} (h : purgeB i b = .row t xs l) : b = .row t xs l := by
 cases b <;> simp [purgeB] at h ⊢
 exact h
def Env.bind (B : Base) (E : Env) (id : Nat) (b : Blk) (w' : World) (q : Option Nat) : Env :=
 { m := { w := w', Mut := fun k j => B.Fo k j ∨ Own (upd E.ρ id q) ((id, b) :: purgeH id E.H) k j, M := E.m.M }, ρ := upd E.ρ id q, H := (id, b) :: purgeH id E.H }
structure BindOK (B : Base) (E : Env) (id : Nat) (b : Blk) (w' : World) (q : Option Nat) : Prop where
 size : E.m.w.heap.size ≤ w'.heap.size
 os : w'.os = E.m.w.os
 tape : w'.tape = E.m.w.tape
 output : w'.output = E.m.w.output
 keep : ∀ k j v, E.m.cell k j = some v → ¬ E.m.Mut k j → w'.cell? ⟨k, j, none⟩ = some v
 shape : ∀ k x, E.m.w.shape? k = some x → w'.shape? k = some x
 other : ∀ k, k < E.m.w.heap.size → (∀ b0, hlook E.H id = some b0 → E.ρ id ≠ some k) → w'.heap[k]? = E.m.w.heap[k]?
 place : ∀ k, q = some k → E.m.w.heap.size ≤ k ∨ (E.ρ id = some k ∧ ∃ b0, hlook E.H id = some b0)
 own : ∀ k j, q = some k → ownB j b → E.m.w.heap.size ≤ k ∨ E.m.Mut k j
section
variable {B : Base} {E : Env} {id : Nat} {b : Blk} {w' : World} {q : Option Nat}
theorem hlook_bind_other {j : Nat} (h : id ≠ j) : hlook (E.bind B id b w' q).H j = (hlook E.H j).map (purgeB id) := by
 simp only [Env.bind, hlook, if_neg h]; exact hlook_purgeH_other h
theorem hlook_bind_same : hlook (E.bind B id b w' q).H id = some b := by simp [Env.bind, hlook]
theorem bind_goes {j : Nat} (h : id ≠ j) : Goes E (E.bind B id b w' q) j := by
 intro b' hb'
 rw [hlook_bind_other h] at hb'
 cases hj : hlook E.H j with
 | none => rw [hj] at hb'; cases hb'
 | some b0 =>
  rw [hj] at hb'
  simp only [Option.map_some, Option.some.injEq] at hb'
  refine ⟨b0, rfl, by simp only [Env.bind]; exact upd_other (Ne.symm h), by rw [← hb', skB_purge], fun t xs l e => ?_⟩
  rw [e] at hb'
  exact ⟨xs, l, row_purge hb', rfl⟩
theorem bind_le (hs : StateOK B E) (h : BindOK B E id b w' q) : E.m.le (E.bind B id b w' q).m := by
 refine ⟨fun k j v hc hm => ⟨h.keep k j v hc hm, fun hm' => ?_⟩, fun k x hk => hk, fun k x hk => h.shape k x hk⟩
 rcases hm' with hf | ⟨i, b', h1, h2, h3⟩
 ·exact hm ((hs.wri k j).2 (.inl hf))
 ·by_cases hi : id = i
  ·subst hi
   rw [show ((id, b) :: purgeH id E.H) = (E.bind B id b w' q).H from rfl, hlook_bind_same] at h1
   cases h1
   rw [upd_same] at h2
   rcases h.own k j h2 h3 with h4 | h4
   ·have := cell_lt hc; omega
   ·exact hm h4
  ·rw [show ((id, b) :: purgeH id E.H) = (E.bind B id b w' q).H from rfl, hlook_bind_other hi] at h1
   cases hj : hlook E.H i with
   | none => rw [hj] at h1; cases h1
   | some b0 =>
    rw [hj] at h1
    simp only [Option.map_some, Option.some.injEq] at h1
    subst h1
    rw [upd_other (Ne.symm hi)] at h2
    exact hm ((hs.wri k j).2 (.inr ⟨i, b0, hj, h2, (ownB_purge _ _ _).1 h3⟩))
theorem CV.bind (hs : StateOK B E) (h : BindOK B E id b w' q) {a : AV} {v : Value} (c : CV E a v) : CV (E.bind B id b w' q) (purgeA id a) v :=
 CV.to (bind_le hs h) (fun j hj => bind_goes (Ne.symm (men_purge id a j hj).1)) (CV.purge id c)
theorem CC.bind (hs : StateOK B E) (h : BindOK B E id b w' q) {a : AV} {cs : List Value} (c : CC E a cs) : CC (E.bind B id b w' q) (purgeA id a) cs :=
 CC.to (bind_le hs h) _ (fun j hj => bind_goes (Ne.symm (men_purge id a j hj).1)) (CC.purge id a c)
theorem RegsOK.bind (hs : StateOK B E) (h : BindOK B E id b w' q) {r : Regs} {n : Nat} {tmps : Array Value} (c : RegsOK E r n tmps) : RegsOK (E.bind B id b w' q) (purgeR id r) n tmps :=
 ⟨c.1, fun t => by rw [look_purgeR]; exact CV.bind hs h (c.2 t)⟩
def NoLoop (E : Env) (id : Nat) : Prop := ∀ i x jmp y fn n r ps p q d, hlook E.H i = some (.loop x jmp y fn n r ps p q d) → d ≠ id
theorem BOK.notDfr {B : Base} {E : Env} {id : Nat} {b : Blk} (h : BOK B E id b) {k : Nat} (hk : E.ρ id = some k) {x : Option (List Deferred)} (hd : E.m.w.heap[k]? = some (.deferred x)) : False := by
 cases b with
 | box a f => obtain ⟨k', arr, e, p1, p2, p3, _⟩ := h; rw [hk] at p1; cases p1; rw [hd] at p3; cases p3
 | row t xs l =>
  rcases h with ⟨p1, _⟩ | ⟨k', arr, e, es, p1, p2, p3, _⟩
  ·rw [hk] at p1; cases p1
  ·rw [hk] at p1; cases p1; rw [hd] at p3; cases p3
 | loop x jmp y fn n r ps p q d => obtain ⟨k', kd, st, tmps, p1, p2, p3, p4, p5, p6⟩ := h; rw [hk] at p1; cases p1; rw [hd] at p6; cases p6
 | dfr sh => exact h.elim
theorem bind_dkeep {B : Base} {E : Env} {id : Nat} {b : Blk} {w' : World} {q : Option Nat} (hs : StateOK B E) (h : BindOK B E id b w' q) : DKeep E.m.w w' := by
 intro k hk
 rw [h.other k (lt_of_some hk) (fun b5 h5 h6 => (hs.blk _ _ h5).notDfr h6 hk)]
 exact hk
theorem codesAt_of {H : Heap} {id : Nat} {c : Code × Code} (h : codesAt H id = some c) : ∃ x jmp y fn n r ps d, hlook H id = some (.loop x jmp y fn n r ps c.1 c.2 d) := by
 unfold codesAt at h
 split at h
 ·rename_i hl
  cases h
  exact ⟨_, _, _, _, _, _, _, _, hl⟩
 ·cases h
theorem codesAt_eq {H : Heap} {id : Nat} {x : Bool} {jmp : Option Code} {y : Bool} {fn n : Nat} {r : Regs} {ps : List Nat} {p q : Code} {d : Nat} (h : hlook H id = some (.loop x jmp y fn n r ps p q d)) : codesAt H id = some (p, q) := by
 unfold codesAt
 rw [h]
theorem bind_idle (_ : StateOK B E) (h : BindOK B E id b w' q) (k : Nat) (hk : k < E.m.w.heap.size) (hi : Idle E k) : Idle (E.bind B id b w' q) k ∧ ∀ o, E.m.w.heap[k]? = some o → (∀ es c, o ≠ .map es c) → (E.bind B id b w' q).m.w.heap[k]? = some o := by
 refine ⟨fun j b' hb' hr => ?_, fun o ho _ => ?_⟩
 ·by_cases e : id = j
  ·subst e
   have hq : q = some k := by simpa [Env.bind, upd_same] using hr
   rcases h.place k hq with h5 | ⟨h5, b5, h6⟩
   ·omega
   ·exact hi _ _ h6 h5
  ·rw [hlook_bind_other e] at hb'
   rw [show (E.bind B id b w' q).ρ j = E.ρ j from upd_other (Ne.symm e)] at hr
   cases hj : hlook E.H j with
   | none => rw [hj] at hb'; cases hb'
   | some b0 => exact hi _ _ hj hr
 ·rw [← ho]
  exact h.other k hk (fun b5 h5 h6 => hi _ _ h5 h6)
theorem bind_stays {n : Nat} (hs : StateOK B E) (h : BindOK B E id b w' q) (hn : n ≤ id) : Stays n E (E.bind B id b w' q) := by
 refine ⟨bind_le hs h, fun j hj => bind_goes (by omega), fun j hj => upd_other (by omega), fun j c hj hc => ?_, bind_dkeep hs h, h.size, bind_idle hs h⟩
 obtain ⟨x, jmp, y, fn, n', r, ps, d, hl⟩ := codesAt_of hc
 rw [hlook_bind_other (by omega)] at hl
 cases hq : hlook E.H j with
 | none => rw [hq] at hl; cases hl
 | some b0 =>
  rw [hq] at hl
  cases b0 with
  | loop x jmp y fn n r ps p q d =>
   simp only [Option.map_some, purgeB, Option.some.injEq, Blk.loop.injEq] at hl
   rw [codesAt_eq hq, hl.2.2.2.2.2.2.2.1, hl.2.2.2.2.2.2.2.2.1]
  | _ => simp [purgeB] at hl
theorem StateOK.bind (hs : StateOK B E) (h : BindOK B E id b w' q) (hn : NoLoop E id) (hlow : B.bound ≤ id) (hb : BOK B (E.bind B id b w' q) id b) : StateOK B (E.bind B id b w' q) := by
 have hle := bind_le hs h
 have hsz : B.w0.heap.size ≤ E.m.w.heap.size := hs.ext.size
 have lift : ∀ j b', hlook (E.bind B id b w' q).H j = some b' → id ≠ j → ∃ b0, hlook E.H j = some b0 ∧ b' = purgeB id b0 := by
  intro j b' hb' hj
  rw [hlook_bind_other hj] at hb'
  cases hl : hlook E.H j with
  | none => rw [hl] at hb'; cases hb'
  | some b0 => rw [hl] at hb'; simp only [Option.map_some, Option.some.injEq] at hb'; exact ⟨b0, rfl, hb'.symm⟩
 have ρo : ∀ j, id ≠ j → (E.bind B id b w' q).ρ j = E.ρ j := fun j hj => upd_other (Ne.symm hj)
 have hfo : (∀ k j, B.Fo k j → k < B.E0.m.w.heap.size) ∧ ∀ i b0 k j, hlook (E.bind B id b w' q).H i = some b0 → (E.bind B id b w' q).ρ i = some k → ¬ B.Fo k j := by
  refine ⟨hs.fo.1, fun i b0 k j h1 h2 hf => ?_⟩
  by_cases e1 : id = i
  ·subst e1
   have h3' : q = some k := by simpa [Env.bind, upd_same] using h2
   rcases h.place k h3' with h5 | ⟨h5, b5, h6⟩
   ·have := hs.fo.1 k j hf; have := hs.since.grow; omega
   ·exact hs.fo.2 _ _ _ _ h6 h5 hf
  ·obtain ⟨b0', hl, _⟩ := lift i b0 h1 e1
   rw [ρo _ e1] at h2
   exact hs.fo.2 _ _ _ _ hl h2 hf
 refine ⟨fun k j => Iff.rfl, hfo, ?_, ?_, ?_, ?_, hs.reg, hs.late, ?_, hs.globm, hs.since.trans (bind_stays hs h hlow), hs.size0⟩
 ·intro i i' b1 b2 k h1 h2 h3 h4
  by_cases e1 : id = i
  ·by_cases e2 : id = i'
   ·omega
   ·exfalso
    subst e1
    obtain ⟨b0, hl, _⟩ := lift i' b2 h2 e2
    rw [ρo _ e2] at h4
    have h3' : q = some k := by simpa [Env.bind, upd_same] using h3
    rcases h.place k h3' with h5 | ⟨h5, b5, h6⟩
    ·have := (hs.blk _ _ hl).lt h4; omega
    ·exact e2 (hs.inj _ _ _ _ _ h6 hl h5 h4)
  ·by_cases e2 : id = i'
   ·exfalso
    subst e2
    obtain ⟨b0, hl, _⟩ := lift i b1 h1 e1
    rw [ρo _ e1] at h3
    have h4' : q = some k := by simpa [Env.bind, upd_same] using h4
    rcases h.place k h4' with h5 | ⟨h5, b5, h6⟩
    ·have := (hs.blk _ _ hl).lt h3; omega
    ·exact e1 (hs.inj _ _ _ _ _ h6 hl h5 h3)
   ·obtain ⟨b0, hl, _⟩ := lift i b1 h1 e1
    obtain ⟨b0', hl', _⟩ := lift i' b2 h2 e2
    rw [ρo _ e1] at h3
    rw [ρo _ e2] at h4
    exact hs.inj _ _ _ _ _ hl hl' h3 h4
 ·intro j b' hb'
  by_cases e1 : id = j
  ·subst e1
   rw [hlook_bind_same] at hb'
   cases hb'
   exact hb
  ·obtain ⟨b0, hl, rfl⟩ := lift j b' hb' e1
   have h0 := hs.blk _ _ hl
   have h1 : BOK B E j (purgeB id b0) := by
    cases b0 with
    | box a f => obtain ⟨k, arr, e, p1, p2, p3, p4⟩ := h0; exact ⟨k, arr, e, p1, p2, p3, CC.purge id a p4⟩
    | row t xs l => exact h0
    | loop x jmp y fn n r ps p q d =>
     obtain ⟨k, kd, st, tmps, p1, p2, p3, p4, p5, p6⟩ := h0
     exact ⟨k, kd, st, tmps, p1, p2, p3, p4, ⟨p5.1, fun t => by rw [look_purgeR]; exact CV.purge id (p5.2 t)⟩, p6⟩
    | dfr sh => exact h0
   refine h1.to hle ?_ ?_ (ρo _ e1) ?_
   ·intro i hi
    cases b0 with
    | box a f => exact bind_goes (Ne.symm (men_purge id a i hi).1)
    | row t xs l => exact hi.elim
    | loop x jmp y fn n r ps p q d =>
     rcases hi with ⟨t, hi⟩ | hi
     ·rw [look_purgeR] at hi; exact bind_goes (Ne.symm (men_purge id _ i hi).1)
     ·have := hn _ _ _ _ _ _ _ _ _ _ _ hl; exact bind_goes (by rw [hi]; exact Ne.symm this)
    | dfr sh => exact hi.elim
   ·intro x jmp y fn n r ps p q d e
    cases b0 <;> simp [purgeB] at e
    rename_i d'
    have := hn _ _ _ _ _ _ _ _ _ _ _ hl
    rw [← e.2.2.2.2.2.2.2.2.2]
    exact ρo _ (Ne.symm this)
   ·intro k hk
    refine h.other k (h0.lt hk).2 (fun b5 h5 h6 => ?_)
    exact e1 (hs.inj _ _ _ _ _ h5 hl h6 hk)
 ·refine hs.memo.to hle rfl (fun km x hk => ?_)
  obtain ⟨i, t, y⟩ := x
  obtain ⟨es, clock, mm, x, h1, _⟩ := hs.memo km i t y hk
  refine h.other km (lt_of_some h1) (fun b5 h5 h6 => ?_)
  have h7 := hs.blk _ _ h5
  cases b5 with
  | box a f => obtain ⟨k, arr, e, p1, p2, p3, _⟩ := h7; rw [h6] at p1; cases p1; rw [h1] at p3; cases p3
  | row t xs l =>
   rcases h7 with ⟨p1, _⟩ | ⟨k, arr, e, es, p1, p2, p3, _⟩
   ·rw [h6] at p1; cases p1
   ·rw [h6] at p1; cases p1; rw [h1] at p3; cases p3
  | loop x jmp y fn n r ps p q d => obtain ⟨k, kd, st, tmps, p1, p2, p3, p4, p5, p6⟩ := h7; rw [h6] at p1; cases p1; rw [h1] at p6; cases p6
  | dfr sh => exact h7.elim
 ·refine ⟨Nat.le_trans hsz h.size, by rw [← hs.ext.os]; exact h.os, by rw [← hs.ext.tape]; exact h.tape, by rw [← hs.ext.output]; exact h.output, fun k hk => ?_⟩
  have : (E.bind B id b w' q).m.w.heap[k]? = E.m.w.heap[k]? := h.other k (by omega) (fun b5 h5 h6 => by have := (hs.blk _ _ h5).lt h6; omega)
  rw [this]
  exact hs.ext.same k hk
 ·intro g
  exact CV.to hle (fun j hj => by rw [hs.globm] at hj; cases hj) (hs.glob g)
end
def Env.write (E : Env) (id : Nat) (b' : Blk) (w' : World) : Env := { m := { E.m with w := w' }, ρ := E.ρ, H := hset E.H id b' }
structure Alike (b b' : Blk) : Prop where
 sk : skB b' = skB b
 row : ∀ t xs l, b' = .row t xs l → ∃ xs0 l0, b = .row t xs0 l0 ∧ List.length xs0 = List.length xs
 own : ∀ j, ownB j b' ↔ ownB j b
 loop : ∀ x jmp y fn n r ps p q d, b' = .loop x jmp y fn n r ps p q d → ∃ x jmp y fn n r ps, b = .loop x jmp y fn n r ps p q d
structure WriteOK (E : Env) (id : Nat) (b b' : Blk) (w' : World) (k0 : Nat) : Prop where
 there : hlook E.H id = some b
 place : E.ρ id = some k0
 alike : Alike b b'
 size : w'.heap.size = E.m.w.heap.size
 os : w'.os = E.m.w.os
 tape : w'.tape = E.m.w.tape
 output : w'.output = E.m.w.output
 keep : ∀ k j v, E.m.cell k j = some v → ¬ E.m.Mut k j → w'.cell? ⟨k, j, none⟩ = some v
 shape : ∀ k x, E.m.w.shape? k = some x → w'.shape? k = some x
 other : ∀ k, k ≠ k0 → w'.heap[k]? = E.m.w.heap[k]?
section
variable {B : Base} {E : Env} {id : Nat} {b b' : Blk} {w' : World} {k0 : Nat}
theorem write_le (h : WriteOK E id b b' w' k0) : E.m.le (E.write id b' w').m :=
 ⟨fun k j v hc hm => ⟨h.keep k j v hc hm, hm⟩, fun _ _ hk => hk, fun k x hk => h.shape k x hk⟩
theorem write_goes (h : WriteOK E id b b' w' k0) (j : Nat) : Goes E (E.write id b' w') j := by
 intro c hc
 simp only [Env.write] at hc
 by_cases e : id = j
 ·subst e
  rw [hlook_hset_same h.there] at hc
  cases hc
  exact ⟨b, h.there, rfl, h.alike.sk, h.alike.row⟩
 ·rw [hlook_hset_other e] at hc
  exact ⟨c, hc, rfl, rfl, fun t xs l e => ⟨xs, l, e, rfl⟩⟩
theorem CV.write (h : WriteOK E id b b' w' k0) {a : AV} {v : Value} (c : CV E a v) : CV (E.write id b' w') a v := CV.to (write_le h) (fun j _ => write_goes h j) c
theorem CC.write (h : WriteOK E id b b' w' k0) {a : AV} {cs : List Value} (c : CC E a cs) : CC (E.write id b' w') a cs := CC.to (write_le h) a (fun j _ => write_goes h j) c
theorem RegsOK.write (h : WriteOK E id b b' w' k0) {r : Regs} {n : Nat} {tmps : Array Value} (c : RegsOK E r n tmps) : RegsOK (E.write id b' w') r n tmps :=
 c.to (write_le h) (fun j _ _ => write_goes h j)
theorem write_dkeep (hs : StateOK B E) (h : WriteOK E id b b' w' k0) : DKeep E.m.w w' := by
 intro k hk
 rw [h.other k (fun e => by subst e; exact (hs.blk _ _ h.there).notDfr h.place hk)]
 exact hk
theorem write_stays {n : Nat} (hs : StateOK B E) (h : WriteOK E id b b' w' k0) : Stays n E (E.write id b' w') := by
 refine ⟨write_le h, fun j _ => write_goes h j, fun _ _ => rfl, fun j c _ hc => ?_, write_dkeep hs h, by rw [show (E.write id b' w').m.w = w' from rfl, h.size]; exact Nat.le_refl _, fun k _ hi => ⟨fun j c hc hr => (let ⟨c0, h0, _⟩ := write_goes h j c hc; hi _ _ h0 hr), fun o ho _ => by rw [← ho]; exact h.other k (fun e => hi _ _ h.there (by rw [h.place, e]))⟩⟩
 obtain ⟨x, jmp, y, fn, n', r, ps, d, hl⟩ := codesAt_of hc
 simp only [Env.write] at hl
 by_cases e : id = j
 ·subst e
  rw [hlook_hset_same h.there] at hl
  cases hl
  obtain ⟨x, jmp, y, fn, n, r, ps, e⟩ := h.alike.loop _ _ _ _ _ _ _ _ _ _ rfl
  have := h.there
  rw [e] at this
  exact codesAt_eq this
 ·rw [hlook_hset_other e] at hl
  exact codesAt_eq hl
theorem StateOK.write (hs : StateOK B E) (h : WriteOK E id b b' w' k0) (hb : BOK B (E.write id b' w') id b') : StateOK B (E.write id b' w') := by
 have hle := write_le h
 have lift : ∀ j c, hlook (E.write id b' w').H j = some c → ∃ c0, hlook E.H j = some c0 := by
  intro j c hc
  obtain ⟨c0, h0, _⟩ := write_goes h j c hc
  exact ⟨c0, h0⟩
 refine ⟨fun k j => ?_, ⟨hs.fo.1, fun i c k j h1 h2 => let ⟨c0, h0⟩ := lift i c h1; hs.fo.2 _ _ _ _ h0 h2⟩, ?_, ?_, ?_, ?_, hs.reg, hs.late, ?_, hs.globm, hs.since.trans (write_stays hs h), hs.size0⟩
 ·rw [show (E.write id b' w').m.Mut k j = E.m.Mut k j from rfl, hs.wri k j]
  refine or_congr_right ⟨?_, ?_⟩
  ·rintro ⟨i, c, h1, h2, h3⟩
   by_cases e : id = i
   ·subst e
    rw [h.there] at h1; cases h1
    exact ⟨id, b', hlook_hset_same h.there, h2, (h.alike.own j).2 h3⟩
   ·exact ⟨i, c, by simp only [Env.write]; rw [hlook_hset_other e]; exact h1, h2, h3⟩
  ·rintro ⟨i, c, h1, h2, h3⟩
   by_cases e : id = i
   ·subst e
    simp only [Env.write] at h1
    rw [hlook_hset_same h.there] at h1; cases h1
    exact ⟨id, b, h.there, h2, (h.alike.own j).1 h3⟩
   ·simp only [Env.write] at h1
    rw [hlook_hset_other e] at h1
    exact ⟨i, c, h1, h2, h3⟩
 ·intro i i' b1 b2 k h1 h2 h3 h4
  obtain ⟨c1, h5⟩ := lift i b1 h1
  obtain ⟨c2, h6⟩ := lift i' b2 h2
  exact hs.inj _ _ _ _ _ h5 h6 h3 h4
 ·intro j c hc
  by_cases e : id = j
  ·subst e
   simp only [Env.write] at hc
   rw [hlook_hset_same h.there] at hc
   cases hc
   exact hb
  ·simp only [Env.write] at hc
   rw [hlook_hset_other e] at hc
   refine (hs.blk _ _ hc).to hle (fun i _ => write_goes h i) (fun _ _ _ _ _ _ _ _ _ _ _ => rfl) rfl (fun k hk => h.other k (fun e2 => ?_))
   subst e2
   exact e (hs.inj _ _ _ _ _ h.there hc h.place hk)
 ·refine hs.memo.to hle rfl (fun km x hk => h.other km (fun e2 => ?_))
  subst e2
  obtain ⟨i, t, y⟩ := x
  obtain ⟨es, clock, mm, x, h1, _⟩ := hs.memo _ i t y hk
  have h7 := hs.blk _ _ h.there
  have h6 := h.place
  cases b with
  | box a f => obtain ⟨k, arr, e, p1, p2, p3, _⟩ := h7; rw [h6] at p1; cases p1; rw [h1] at p3; cases p3
  | row t xs l =>
   rcases h7 with ⟨p1, _⟩ | ⟨k, arr, e, es, p1, p2, p3, _⟩
   ·rw [h6] at p1; cases p1
   ·rw [h6] at p1; cases p1; rw [h1] at p3; cases p3
  | loop x jmp y fn n r ps p q d => obtain ⟨k, kd, st, tmps, p1, p2, p3, p4, p5, p6⟩ := h7; rw [h6] at p1; cases p1; rw [h1] at p6; cases p6
  | dfr sh => exact h7.elim
 ·refine ⟨by rw [show (E.write id b' w').m.w = w' from rfl, h.size]; exact hs.ext.size, by rw [← hs.ext.os]; exact h.os, by rw [← hs.ext.tape]; exact h.tape, by rw [← hs.ext.output]; exact h.output, fun k hk => ?_⟩
  have : (E.write id b' w').m.w.heap[k]? = E.m.w.heap[k]? := h.other k (fun e => by have := (hs.blk _ _ h.there).lt h.place; omega)
  rw [this]
  exact hs.ext.same k hk
 ·intro g
  exact CV.write h (hs.glob g)
end
inductive Less : Blk → Blk → Prop
 | refl (b : Blk) : Less b b
 | row (t : Ty) (xs : List (den t)) (l : Bool) : Less (.row t xs true) (.row t xs l)
 | box (a : AV) (f : Bool) : Less (.box a true) (.box a f)
theorem Less.trans {a b c : Blk} (h : Less a b) (h' : Less b c) : Less a c := by
 cases h with
 | refl => exact h'
 | row t xs l => cases h' <;> constructor
 | box a f => cases h' <;> constructor
theorem Less.own {a b : Blk} (h : Less a b) {j : Nat} (ho : ownB j a) : ownB j b := by
 cases h with
 | refl => exact ho
 | row t xs l => exact fun _ => ho rfl
 | box a f => simp [ownB] at ho
def HLess (H' H : Heap) : Prop := ∀ id b', hlook H' id = some b' → ∃ b, hlook H id = some b ∧ Less b' b
theorem HLess.refl (H : Heap) : HLess H H := fun _ b' h => ⟨b', h, .refl _⟩
theorem HLess.trans {a b c : Heap} (h : HLess a b) (h' : HLess b c) : HLess a c := fun id x hx =>
 let ⟨y, hy, l⟩ := h id x hx; let ⟨z, hz, l'⟩ := h' id y hy; ⟨z, hz, l.trans l'⟩
def Env.less (B : Base) (E : Env) (H' : Heap) : Env := { m := { E.m with Mut := fun k j => B.Fo k j ∨ Own E.ρ H' k j }, ρ := E.ρ, H := H' }
section
variable {B : Base} {E : Env} {H' : Heap}
theorem less_le (hs : StateOK B E) (h : HLess H' E.H) : E.m.le (E.less B H').m :=
 ⟨fun k j _ hc hm => ⟨hc, fun hm' => hm ((hs.wri k j).2 (hm'.imp id fun ⟨i, b', h1, h2, h3⟩ => let ⟨b, h4, h5⟩ := h i b' h1; ⟨i, b, h4, h2, h5.own h3⟩))⟩, fun _ _ h => h, fun _ _ h => h⟩
theorem less_goes (h : HLess H' E.H) (j : Nat) : Goes E (E.less B H') j := by
 intro b' hb'
 obtain ⟨b, h1, h2⟩ := h j b' hb'
 refine ⟨b, h1, rfl, by cases h2 <;> rfl, fun t xs l e => ?_⟩
 cases h2 with
 | refl => exact ⟨xs, l, e, rfl⟩
 | row t' xs' l' => cases e; exact ⟨xs, l', rfl, rfl⟩
 | box a f => cases e
theorem CV.less (hs : StateOK B E) (h : HLess H' E.H) {a : AV} {v : Value} (c : CV E a v) : CV (E.less B H') a v := CV.to (less_le hs h) (fun j _ => less_goes h j) c
theorem CC.less (hs : StateOK B E) (h : HLess H' E.H) {a : AV} {cs : List Value} (c : CC E a cs) : CC (E.less B H') a cs := CC.to (less_le hs h) a (fun j _ => less_goes h j) c
theorem RegsOK.less (hs : StateOK B E) (h : HLess H' E.H) {r : Regs} {n : Nat} {tmps : Array Value} (c : RegsOK E r n tmps) : RegsOK (E.less B H') r n tmps := c.to (less_le hs h) (fun j _ _ => less_goes h j)
theorem less_stays {n : Nat} (hs : StateOK B E) (h : HLess H' E.H) : Stays n E (E.less B H') := by
 refine ⟨less_le hs h, fun j _ => less_goes h j, fun _ _ => rfl, fun j c _ hc => ?_, fun _ h => h, Nat.le_refl _, fun k _ hi => ⟨fun j c hc hr => (let ⟨c0, h0, _⟩ := h j c hc; hi _ _ h0 hr), fun _ ho _ => ho⟩⟩
 obtain ⟨x, jmp, y, fn, n', r, ps, d, hl⟩ := codesAt_of hc
 obtain ⟨b, h1, h2⟩ := h _ _ hl
 cases h2
 exact codesAt_eq h1
theorem StateOK.less (hs : StateOK B E) (h : HLess H' E.H) : StateOK B (E.less B H') := by
 have hle := less_le hs h
 refine ⟨fun _ _ => Iff.rfl, ⟨hs.fo.1, fun i c k j h1 h2 => let ⟨c0, h0, _⟩ := h i c h1; hs.fo.2 _ _ _ _ h0 h2⟩, ?_, ?_, hs.memo.to hle rfl (fun _ _ _ => rfl), hs.ext, hs.reg, hs.late, fun g => CV.less hs h (hs.glob g), hs.globm, hs.since.trans (less_stays hs h), hs.size0⟩
 ·intro i i' b1 b2 k h1 h2 h3 h4
  obtain ⟨c1, h5, _⟩ := h i b1 h1
  obtain ⟨c2, h6, _⟩ := h i' b2 h2
  exact hs.inj _ _ _ _ _ h5 h6 h3 h4
 ·intro j b' hb'
  obtain ⟨b, h1, h2⟩ := h j b' hb'
  have h3 : BOK B (E.less B H') j b := (hs.blk _ _ h1).to hle (fun i _ => less_goes h i) (fun _ _ _ _ _ _ _ _ _ _ _ => rfl) rfl (fun _ _ => rfl)
  cases h2 <;> exact h3
end
def Env.world (E : Env) (w' : World) (M' : Nat → Option (Nat × Sigma den)) : Env := { m := { E.m with w := w', M := M' }, ρ := E.ρ, H := E.H }
structure WorldOK (B : Base) (E : Env) (w' : World) (M' : Nat → Option (Nat × Sigma den)) : Prop where
 size : E.m.w.heap.size ≤ w'.heap.size
 os : w'.os = E.m.w.os
 tape : w'.tape = E.m.w.tape
 output : w'.output = E.m.w.output
 same : ∀ k, k < E.m.w.heap.size → w'.heap[k]? = E.m.w.heap[k]? ∨ (E.m.M k).isSome = true
 reg : ∀ k x, E.m.M k = some x → M' k = some x
 late : ∀ k x, M' k = some x → B.M0 k = none → B.w0.heap.size ≤ k
 memo : MemoOK B (E.world w' M')
section
variable {B : Base} {E : Env} {w' : World} {M' : Nat → Option (Nat × Sigma den)}
theorem memo_block (hs : MemoOK B E) {k : Nat} (h : (E.m.M k).isSome = true) : ∃ es clock, E.m.w.heap[k]? = some (.map es clock) := by
 obtain ⟨⟨i, t, y⟩, h⟩ := Option.isSome_iff_exists.1 h
 obtain ⟨es, clock, mm, x, h1, _⟩ := hs k i t y h
 exact ⟨es, clock, h1⟩
theorem world_same (hs : StateOK B E) (h : WorldOK B E w' M') {k : Nat} {o : Obj} (ho : E.m.w.heap[k]? = some o) (hm : ∀ es c, o ≠ .map es c) : w'.heap[k]? = some o := by
 rcases h.same k (lt_of_some ho) with h1 | h1
 ·rw [h1, ho]
 ·obtain ⟨es, c, h2⟩ := memo_block hs.memo h1
  rw [ho] at h2; cases h2
  exact absurd rfl (hm es c)
theorem world_le (hs : StateOK B E) (h : WorldOK B E w' M') : E.m.le (E.world w' M').m := by
 refine ⟨fun k j v hc hm => ⟨?_, hm⟩, h.reg, fun k x hk => ?_⟩
 ·simp only [Mem.cell, World.cell?] at hc ⊢
  split at hc
  ·rename_i c e fr hk
   rw [show (E.world w' M').m.w.heap[k]? = some (.cells c e fr) from world_same hs h hk (by intros; simp)]
   exact hc
  ·cases hc
 ·simp only [World.shape?] at hk ⊢
  split at hk
  ·rename_i c e fr hk'
   rw [show (E.world w' M').m.w.heap[k]? = some (.cells c e fr) from world_same hs h hk' (by intros; simp)]
   exact hk
  ·cases hk
theorem world_dkeep (hs : StateOK B E) (h : WorldOK B E w' M') : DKeep E.m.w w' := fun _ hk => world_same hs h hk (by intros; simp)
theorem world_goes (j : Nat) : Goes E (E.world w' M') j := fun b' hb' => ⟨b', hb', rfl, rfl, fun _ xs l e => ⟨xs, l, e, rfl⟩⟩
theorem CV.world (hs : StateOK B E) (h : WorldOK B E w' M') {a : AV} {v : Value} (c : CV E a v) : CV (E.world w' M') a v := CV.to (world_le hs h) (fun j _ => world_goes j) c
theorem CC.world (hs : StateOK B E) (h : WorldOK B E w' M') {a : AV} {cs : List Value} (c : CC E a cs) : CC (E.world w' M') a cs := CC.to (world_le hs h) a (fun j _ => world_goes j) c
theorem RegsOK.world (hs : StateOK B E) (h : WorldOK B E w' M') {r : Regs} {n : Nat} {tmps : Array Value} (c : RegsOK E r n tmps) : RegsOK (E.world w' M') r n tmps := c.to (world_le hs h) (fun j _ _ => world_goes j)
theorem world_stays {n : Nat} (hs : StateOK B E) (h : WorldOK B E w' M') : Stays n E (E.world w' M') := ⟨world_le hs h, fun j _ => world_goes j, fun _ _ => rfl, fun _ _ _ hc => hc, world_dkeep hs h, h.size, fun _ _ hi => ⟨hi, fun _ ho hm => world_same hs h ho hm⟩⟩
theorem StateOK.world (hs : StateOK B E) (h : WorldOK B E w' M') : StateOK B (E.world w' M') := by
 have hle := world_le hs h
 refine ⟨hs.wri, hs.fo, hs.inj, ?_, h.memo, ?_, fun k x hk => h.reg k x (hs.reg k x hk), h.late, fun g => CV.world hs h (hs.glob g), hs.globm, hs.since.trans (world_stays hs h), hs.size0⟩
 ·intro j b hb
  have h0 := hs.blk _ _ hb
  refine h0.to hle (fun i _ => world_goes i) (fun _ _ _ _ _ _ _ _ _ _ _ => rfl) rfl (fun k hk => ?_)
  have key : ∀ o, E.m.w.heap[k]? = some o → (∀ es c, o ≠ .map es c) → w'.heap[k]? = E.m.w.heap[k]? := fun o ho hm => by rw [ho]; exact world_same hs h ho hm
  cases b with
  | box a f => obtain ⟨k', arr, e, p1, p2, p3, _⟩ := h0; rw [hk] at p1; cases p1; exact key _ p3 (by intros; simp)
  | row t xs l =>
   rcases h0 with ⟨p1, _⟩ | ⟨k', arr, e, es, p1, p2, p3, _⟩
   ·rw [hk] at p1; cases p1
   ·rw [hk] at p1; cases p1; exact key _ p3 (by intros; simp)
  | loop x jmp y fn n r ps p q d => obtain ⟨k', kd, st, tmps, p1, p2, p3, p4, p5, p6⟩ := h0; rw [hk] at p1; cases p1; exact key _ p6 (by intros; simp)
  | dfr sh => exact h0.elim
 ·refine ⟨Nat.le_trans hs.ext.size h.size, by rw [← hs.ext.os]; exact h.os, by rw [← hs.ext.tape]; exact h.tape, by rw [← hs.ext.output]; exact h.output, fun k hk => ?_⟩
  have hsz := hs.ext.size
  rcases h.same k (by omega) with h1 | h1
  ·rw [show (E.world w' M').m.w.heap[k]? = E.m.w.heap[k]? from h1]; exact hs.ext.same k hk
  ·right
   obtain ⟨x, hx⟩ := Option.isSome_iff_exists.1 h1
   cases h0 : B.M0 k with
   | none => have := hs.late k x hx h0; omega
   | some y => rfl
end
end Go.Gh
