/- The ghost machine, definitions: a typed symbolic executor for loaded Go functions. Conditions: none (definitions alone). -/
import Derived.Calls
import GoSem.Core.World
namespace Go.Gh
inductive Ty where
 | int (k : IntKind) | bool | str
 | struct (fs : List Ty)
 | arr (n : Nat) (t : Ty)
 | slice (t : Ty)
 | hnd (i : Nat) (t : Ty)
mutual
@[reducible] def den : Ty → Type
 | .int _ => Int
 | .bool => Bool
 | .str => ByteArray
 | .struct fs => denL fs
 | .arr _ t => List (den t)
 | .slice t => List (den t)
 | .hnd _ t => Option (den t)
@[reducible] def denL : List Ty → Type
 | [] => Unit
 | t :: ts => den t × denL ts
end
mutual
def dflt : (t : Ty) → den t
 | .int _ => (0 : Int)
 | .bool => false
 | .str => ByteArray.empty
 | .struct fs => dfltL fs
 | .arr n t => List.replicate n (dflt t)
 | .slice _ => []
 | .hnd _ _ => none
def dfltL : (ts : List Ty) → denL ts
 | [] => ()
 | t :: ts => (dflt t, dfltL ts)
end
mutual
def size : Ty → Nat
 | .struct fs => sizeL fs
 | .arr n t => n * size t
 | _ => 1
def sizeL : List Ty → Nat
 | [] => 0
 | t :: ts => size t + sizeL ts
end
mutual
def eqT : (t u : Ty) → Option (PLift (t = u))
 | .int k, .int k' => if h : k = k' then some ⟨h ▸ rfl⟩ else none
 | .bool, .bool => some ⟨rfl⟩
 | .str, .str => some ⟨rfl⟩
 | .struct fs, .struct gs => match eqL fs gs with | some ⟨h⟩ => some ⟨h ▸ rfl⟩ | none => none
 | .arr n t, .arr m u => if h : n = m then (match eqT t u with | some ⟨h'⟩ => some ⟨h ▸ h' ▸ rfl⟩ | none => none) else none
 | .slice t, .slice u => match eqT t u with | some ⟨h⟩ => some ⟨h ▸ rfl⟩ | none => none
 | .hnd i t, .hnd j u => if h : i = j then (match eqT t u with | some ⟨h'⟩ => some ⟨h ▸ h' ▸ rfl⟩ | none => none) else none
 | _, _ => none
def eqL : (ts us : List Ty) → Option (PLift (ts = us))
 | [], [] => some ⟨rfl⟩
 | t :: ts, u :: us => match eqT t u, eqL ts us with | some ⟨h⟩, some ⟨h'⟩ => some ⟨h ▸ h' ▸ rfl⟩ | _, _ => none
 | _, _ => none
end
def castT (t u : Ty) (x : den t) : Option (den u) :=
 match eqT t u with
 | some ⟨h⟩ => some (h ▸ x)
 | none => none
inductive AV where
 | dat (t : Ty) (x : den t)
 | agg (fs : List AV)
 | arrL (fs : List AV)
 | ptr (id : Nat) (path : List Nat)
 | cptr (t : Ty) (x : den t)
 | hp (i : Nat) (t : Ty) (x : den t)
 | hmp (i : Nat) (t : Ty) (x : den t)
 | hm (i : Nat) (t : Ty) (x : den t)
 | full (t : Ty) (x : List (den t))
 | row (id : Nat)
 | sub (id : Nat) (lo len : Nat)
 | nilsl | nilp | nilf | nilm
 | fn (f : FuncId) (fst caps : List AV)
 | yld (g : Nat)
 | tup (fs : List AV)
 | any   -- one cell, of which nothing is known
 | top   -- a value of which nothing is known
inductive Blk where
 | box (a : AV) (frz : Bool)
 | row (t : Ty) (xs : List (den t)) (lent : Bool)
 | loop (done : Bool) (jump : Option Code) (busy : Bool) (fn : FuncId) (n : Nat) (regs : List (Nat × AV)) (params : List Nat) (assign body : Code) (defers : Nat)
 | dfr (shut : Bool)
abbrev Heap := List (Nat × Blk)
abbrev Regs := List (Nat × AV)
def look : Regs → Nat → AV
 | [], _ => .top
 | (t, a) :: r, u => if t = u then a else look r u
def hlook : Heap → Nat → Option Blk
 | [], _ => none
 | (i, b) :: r, j => if i = j then some b else hlook r j
def hset : Heap → Nat → Blk → Heap
 | [], _, _ => []
 | (i, b) :: r, j, c => if i = j then (i, c) :: r else (i, b) :: hset r j c
inductive Sk where
 | one | bad
 | node (l : List Sk)
 | rep (n : Nat) (s : Sk)
mutual
def eqSk : Sk → Sk → Bool
 | .one, .one => true
 | .node l, .node l' => eqSkL l l'
 | .rep n s, .rep m s' => n == m && eqSk s s'
 | _, _ => false
def eqSkL : List Sk → List Sk → Bool
 | [], [] => true
 | a :: as, b :: bs => eqSk a b && eqSkL as bs
 | _, _ => false
end
mutual
def sizeK : Sk → Nat
 | .one => 1
 | .bad => 0
 | .node l => sizeKL l
 | .rep n s => n * sizeK s
def sizeKL : List Sk → Nat
 | [] => 0
 | a :: as => sizeK a + sizeKL as
end
def offK : Sk → List Nat → Nat
 | _, [] => 0
 | .node l, k :: p => sizeKL (l.take k) + offK (l.getD k .one) p
 | .rep _ s, i :: p => i * sizeK s + offK s p
 | _, _ :: _ => 0
def skAt : Sk → List Nat → Sk
 | s, [] => s
 | .node l, k :: p => skAt (l.getD k .bad) p
 | .rep _ s, _ :: p => skAt s p
 | _, _ :: _ => .bad
mutual
def skT : Ty → Sk
 | .struct fs => .node (skTL fs)
 | .arr n t => .rep n (skT t)
 | _ => .one
def skTL : List Ty → List Sk
 | [] => []
 | t :: ts => skT t :: skTL ts
end
mutual
def skA : AV → Sk
 | .dat t _ => skT t
 | .agg fs => .node (skAL fs)
 | .arrL fs => .node (skAL fs)
 | .top | .tup _ => .bad
 | _ => .one
def skAL : List AV → List Sk
 | [] => []
 | a :: as => skA a :: skAL as
end
def cells (a : AV) : Nat := sizeK (skA a)
def skB : Blk → Sk
 | .box a _ => skA a
 | .row t _ _ => .rep 0 (skT t)
 | _ => .one
def Ty.isAgg : Ty → Bool
 | .struct _ | .arr _ _ => true
 | _ => false
def AV.isAgg : AV → Bool
 | .dat t _ => t.isAgg
 | .agg _ | .arrL _ => true
 | _ => false
mutual
def men (id : Nat) : AV → Bool
 | .agg fs | .arrL fs | .tup fs => menL id fs
 | .ptr j _ => j == id
 | .row j => j == id
 | .sub j _ _ => j == id
 | .fn _ fs cs => menL id fs || menL id cs
 | .yld j => j == id
 | _ => false
def menL (id : Nat) : List AV → Bool
 | [] => false
 | a :: as => men id a || menL id as
end
mutual
def purgeA (id : Nat) : AV → AV
 | .agg fs => .agg (purgeL id fs)
 | .arrL fs => .arrL (purgeL id fs)
 | .tup fs => .tup (purgeL id fs)
 | .ptr j p => if j = id then .any else .ptr j p
 | .row j => if j = id then .any else .row j
 | .sub j a b => if j = id then .any else .sub j a b
 | .fn f fs cs => .fn f (purgeL id fs) (purgeL id cs)
 | .yld j => if j = id then .any else .yld j
 | a => a
def purgeL (id : Nat) : List AV → List AV
 | [] => []
 | a :: as => purgeA id a :: purgeL id as
end
def purgeR (id : Nat) : Regs → Regs
 | [] => []
 | (t, a) :: r => (t, purgeA id a) :: purgeR id r
def purgeB (id : Nat) : Blk → Blk
 | .box a f => .box (purgeA id a) f
 | .loop d j b fn n r p x y e => .loop d j b fn n (purgeR id r) p x y e
 | b => b
def purgeH (id : Nat) : Heap → Heap
 | [] => []
 | (i, b) :: r => if i = id then purgeH id r else (i, purgeB id b) :: purgeH id r
def fieldT : (fs : List Ty) → denL fs → Nat → Option (Sigma den)
 | [], _, _ => none
 | t :: _, x, 0 => some ⟨t, x.1⟩
 | _ :: ts, x, k + 1 => fieldT ts x.2 k
def fieldsT : (fs : List Ty) → denL fs → List AV
 | [], _ => []
 | t :: ts, x => .dat t x.1 :: fieldsT ts x.2
section
variable {R : Type}
def getT : List Nat → (t : Ty) → den t → (AV → Option R) → Option R
 | [], t, x, g => g (.dat t x)
 | k :: p, .struct fs, x, g => match fieldT fs x k with | some ⟨t, y⟩ => getT p t y g | none => none
 | i :: p, .arr n t, xs, g => cond (decide (i < n)) (getT p t (List.getD xs i (dflt t)) g) none
 | _ :: _, _, _, _ => none
def splitN (i : Nat) (f : Nat → Option R) : Nat → Nat → Option R
 | _, 0 => none
 | j, n + 1 => cond (decide (i = j)) (f j) (splitN i f (j + 1) n)
def getA : List Nat → AV → (AV → Option R) → Option R
 | [], a, g => g a
 | p, .dat t x, g => getT p t x g
 | k :: p, .agg fs, g => match fs[k]? with | some a => getA p a g | none => none
 | i :: p, .arrL fs, g => splitN i (fun j => match fs[j]? with | some a => getA p a g | none => none) 0 fs.length
 | _, _, _ => none
def setFs : (fs : List Ty) → denL fs → Nat → ((t : Ty) → den t → (den t → Option R) → Option R) → (denL fs → Option R) → Option R
 | [], _, _, _, _ => none
 | t :: _, x, 0, m, g => m t x.1 (fun y => g (y, x.2))
 | _ :: ts, x, k + 1, m, g => setFs ts x.2 k m (fun y => g (x.1, y))
def setT : List Nat → (u : Ty) → den u → (t : Ty) → den t → (den t → Option R) → Option R
 | [], u, y, t, _, g => match castT u t y with | some z => g z | none => none
 | k :: p, u, y, .struct fs, x, g => setFs fs x k (fun t z g' => setT p u y t z g') g
 | i :: p, u, y, .arr n t, xs, g => cond (decide (i < n)) (setT p u y t (List.getD xs i (dflt t)) (fun z => g (List.set xs i z))) none
 | _ :: _, _, _, _, _, _ => none
def setA : List Nat → AV → AV → (AV → Option R) → Option R
 | [], b, a, g => cond (eqSk (skA b) (skA a)) (g b) none
 | p, .dat u y, .dat t x, g => setT p u y t x (fun z => g (.dat t z))
 | k :: p, b, .dat (.struct fs) x, g => match (fieldsT fs x)[k]? with
   | some a => setA p b a (fun z => g (.agg ((fieldsT fs x).set k z)))
   | none => none
 | k :: p, b, .agg fs, g => match fs[k]? with
   | some a => setA p b a (fun z => g (.agg (fs.set k z)))
   | none => none
 | i :: p, b, .arrL fs, g => splitN i (fun j => match fs[j]? with
   | some a => setA p b a (fun z => g (.arrL (fs.set j z)))
   | none => none) 0 fs.length
 | _, _, _, _ => none
end
mutual
def toDat (H : Heap) : (t : Ty) → AV → Option (den t)
 | t, .dat u y => castT u t y
 | .slice _, .nilsl => some []
 | .hnd _ _, .nilp => some none
 | .hnd i u, .hp j u' x => if i = j then (match castT u' u x with | some y => some (some y) | none => none) else none
 | .slice u, .row id => match hlook H id with
   | some (.row u' xs true) => castT (.slice u') (.slice u) xs
   | _ => none
 | .slice u, .sub id lo len => match hlook H id with
   | some (.row u' xs true) => castT (.slice u') (.slice u) (List.take len (List.drop lo xs))
   | _ => none
 | .struct fs, .agg as => toDatL H fs as
 | .arr n t, .arrL as => if as.length = n then toDatN H t as else none
 | _, _ => none
def toDatL (H : Heap) : (ts : List Ty) → List AV → Option (denL ts)
 | [], [] => some ()
 | t :: ts, a :: as => match toDat H t a, toDatL H ts as with
   | some x, some y => some (x, y)
   | _, _ => none
 | _, _ => none
def toDatN (H : Heap) : (t : Ty) → List AV → Option (List (den t))
 | _, [] => some []
 | t, a :: as => match toDat H t a, toDatN H t as with
   | some x, some y => some (x :: y)
   | _, _ => none
end
def lend1 (id : Nat) : Heap → Heap
 | [] => []
 | (i, b) :: r => if i = id then (match b with | .row t xs _ => (i, .row t xs true) :: r | b => (i, b) :: r) else (i, b) :: lend1 id r
mutual
def lendA : AV → Heap → Heap
 | .agg fs, H | .arrL fs, H | .tup fs, H => lendL fs H
 | .row id, H => lend1 id H
 | .sub id _ _, H => lend1 id H
 | _, H => H
def lendL : List AV → Heap → Heap
 | [], H => H
 | a :: as, H => lendL as (lendA a H)
end
mutual
def eqD : (t : Ty) → den t → den t → Bool
 | .int _, x, y => x == y
 | .bool, x, y => x == y
 | .str, x, y => ByteArray.toList x == ByteArray.toList y
 | .struct fs, x, y => eqDL fs x y
 | .arr _ t, x, y => eqDs t x y
 | _, _, _ => false
def eqDL : (ts : List Ty) → denL ts → denL ts → Bool
 | [], _, _ => true
 | t :: ts, x, y => eqD t x.1 y.1 && eqDL ts x.2 y.2
def eqDs : (t : Ty) → List (den t) → List (den t) → Bool
 | _, [], [] => true
 | t, x :: xs, y :: ys => eqD t x y && eqDs t xs ys
 | _, _, _ => false
end
end Go.Gh
/- The ghost machine: how plain data lies in memory. Conditions: none (definitions, and lemmas on them). -/
namespace Go.Gh
structure Mem where
 w : World
 Mut : Nat → Nat → Prop
 M : Nat → Option (Nat × Sigma den)
def Mem.cell (m : Mem) (k j : Nat) : Option Value := m.w.cell? ⟨k, j, none⟩
def Lies (m : Mem) (k off : Nat) (cs : List Value) : Prop := ∀ j v, cs[j]? = some v → m.cell k (off + j) = some v ∧ ¬ m.Mut k (off + j)
def Rows {α : Type} (P : α → List Value → Prop) : List α → List Value → Prop
 | [], cs => cs = []
 | x :: xs, cs => ∃ a b, cs = a ++ b ∧ P x a ∧ Rows P xs b
mutual
def Enc (m : Mem) : (t : Ty) → den t → List Value → Prop
 | .int k, n, cs => cs = [.int k n]
 | .bool, b, cs => cs = [.bool b]
 | .str, s, cs => cs = [.string s]
 | .struct fs, x, cs => EncL m fs x cs
 | .arr n t, xs, cs => List.length xs = n ∧ Rows (Enc m t) xs cs
 | .slice t, xs, cs => ∃ a cap, cs = [.slice a (List.length xs) cap] ∧ List.length xs ≤ cap ∧
   (xs ≠ [] → ∃ k off es, a = some ⟨k, off, none⟩ ∧ Rows (Enc m t) xs es ∧ Lies m k off es)
 | .hnd _ _, none, cs => cs = [.pointer none]
 | .hnd i t, some y, cs => ∃ k es km, cs = [.pointer (some ⟨k, 0, none⟩)] ∧ Enc m t y es ∧ Lies m k 0 (es ++ [.map (some km)]) ∧ m.M km = some (i, ⟨t, y⟩)
def EncL (m : Mem) : (ts : List Ty) → denL ts → List Value → Prop
 | [], _, cs => cs = []
 | t :: ts, x, cs => ∃ a b, cs = a ++ b ∧ Enc m t x.1 a ∧ EncL m ts x.2 b
end
structure Mem.le (m m' : Mem) : Prop where
 keep : ∀ k j v, m.cell k j = some v → ¬ m.Mut k j → m'.cell k j = some v ∧ ¬ m'.Mut k j
 memo : ∀ k x, m.M k = some x → m'.M k = some x
 shape : ∀ k x, m.w.shape? k = some x → m'.w.shape? k = some x
theorem Mem.le.refl (m : Mem) : m.le m := ⟨fun _ _ _ h h' => ⟨h, h'⟩, fun _ _ h => h, fun _ _ h => h⟩
theorem Mem.le.trans {a b c : Mem} (h : a.le b) (h' : b.le c) : a.le c :=
 ⟨fun k j v x y => let ⟨p, q⟩ := h.keep k j v x y; h'.keep k j v p q, fun k x y => h'.memo k x (h.memo k x y), fun k x y => h'.shape k x (h.shape k x y)⟩
theorem Lies.mono {m m' : Mem} (h : m.le m') {k off : Nat} {cs : List Value} (l : Lies m k off cs) : Lies m' k off cs :=
 fun j v hj => let ⟨a, b⟩ := l j v hj; h.keep _ _ _ a b
theorem Rows.mono {α : Type} {P Q : α → List Value → Prop} (h : ∀ x cs, P x cs → Q x cs) : ∀ {xs : List α} {cs : List Value}, Rows P xs cs → Rows Q xs cs
 | [], _, r => r
 | _ :: _, _, ⟨a, b, e, p, r⟩ => ⟨a, b, e, h _ _ p, Rows.mono h r⟩
mutual
theorem Enc.mono {m m' : Mem} (h : m.le m') : (t : Ty) → ∀ {x : den t} {cs : List Value}, Enc m t x cs → Enc m' t x cs
 | .int _, _, _, e => by unfold Enc at *; exact e
 | .bool, _, _, e => by unfold Enc at *; exact e
 | .str, _, _, e => by unfold Enc at *; exact e
 | .struct fs, x, cs, e => by unfold Enc at *; exact EncL.mono h fs e
 | .arr n t, xs, cs, e => by unfold Enc at *; exact ⟨e.1, e.2.mono fun x cs p => Enc.mono h t p⟩
 | .slice t, xs, cs, e => by
  unfold Enc at *
  obtain ⟨a, cap, e1, e2, e3⟩ := e
  exact ⟨a, cap, e1, e2, fun hn => let ⟨k, off, es, p1, p2, p3⟩ := e3 hn; ⟨k, off, es, p1, p2.mono fun x cs p => Enc.mono h t p, p3.mono h⟩⟩
 | .hnd i t, none, cs, e => by unfold Enc at *; exact e
 | .hnd i t, some y, cs, e => by
  unfold Enc at *
  obtain ⟨k, es, km, e1, e2, e3, e4⟩ := e
  exact ⟨k, es, km, e1, Enc.mono h t e2, e3.mono h, h.memo _ _ e4⟩
theorem EncL.mono {m m' : Mem} (h : m.le m') : (ts : List Ty) → ∀ {x : denL ts} {cs : List Value}, EncL m ts x cs → EncL m' ts x cs
 | [], _, _, e => by unfold EncL at *; exact e
 | t :: ts, x, cs, e => by
  unfold EncL at *
  obtain ⟨a, b, e1, e2, e3⟩ := e
  exact ⟨a, b, e1, Enc.mono h t e2, EncL.mono h ts e3⟩
end
theorem Rows.len {α : Type} {P : α → List Value → Prop} {s : Nat} (h : ∀ x cs, P x cs → cs.length = s) : ∀ {xs : List α} {cs : List Value}, Rows P xs cs → cs.length = xs.length * s
 | [], _, r => by simp [Rows] at r; simp [r]
 | x :: xs, cs, ⟨a, b, e, p, r⟩ => by
  have := Rows.len h r; have := h _ _ p
  subst e; simp [*, Nat.add_mul]; omega
mutual
theorem Enc.len {m : Mem} : (t : Ty) → ∀ {x : den t} {cs : List Value}, Enc m t x cs → cs.length = size t
 | .int _, _, _, e => by unfold Enc at e; simp [e, size]
 | .bool, _, _, e => by unfold Enc at e; simp [e, size]
 | .str, _, _, e => by unfold Enc at e; simp [e, size]
 | .struct fs, x, cs, e => by unfold Enc at e; simp only [size]; exact EncL.len fs e
 | .arr n t, xs, cs, e => by
  unfold Enc at e; simp only [size]
  rw [Rows.len (fun x cs p => Enc.len t p) e.2, e.1]
 | .slice t, xs, cs, e => by unfold Enc at e; obtain ⟨a, cap, e1, _⟩ := e; simp [e1, size]
 | .hnd i t, none, cs, e => by unfold Enc at e; simp [e, size]
 | .hnd i t, some y, cs, e => by unfold Enc at e; obtain ⟨k, es, km, e1, _⟩ := e; simp [e1, size]
theorem EncL.len {m : Mem} : (ts : List Ty) → ∀ {x : denL ts} {cs : List Value}, EncL m ts x cs → cs.length = sizeL ts
 | [], _, _, e => by unfold EncL at e; simp [e, sizeL]
 | t :: ts, x, cs, e => by
  unfold EncL at e
  obtain ⟨a, b, e1, e2, e3⟩ := e
  simp [e1, sizeL, Enc.len t e2, EncL.len ts e3]
end
def one : Value → Bool
 | .agg _ | .tuple _ => false
 | _ => true
theorem Rows.all {α : Type} {P : α → List Value → Prop} {q : Value → Prop} (h : ∀ x cs, P x cs → ∀ v ∈ cs, q v) : ∀ {xs : List α} {cs : List Value}, Rows P xs cs → ∀ v ∈ cs, q v
 | [], _, r => by simp [Rows] at r; simp [r]
 | x :: xs, cs, ⟨a, b, e, p, r⟩ => by
  subst e
  intro v hv
  rcases List.mem_append.1 hv with hv | hv
  ·exact h _ _ p v hv
  ·exact Rows.all h r v hv
mutual
theorem Enc.one {m : Mem} : (t : Ty) → ∀ {x : den t} {cs : List Value}, Enc m t x cs → ∀ v ∈ cs, one v = true
 | .int _, _, _, e => by unfold Enc at e; simp [e, Gh.one]
 | .bool, _, _, e => by unfold Enc at e; simp [e, Gh.one]
 | .str, _, _, e => by unfold Enc at e; simp [e, Gh.one]
 | .struct fs, x, cs, e => by unfold Enc at e; exact EncL.one fs e
 | .arr n t, xs, cs, e => by unfold Enc at e; exact Rows.all (fun x cs p => Enc.one t p) e.2
 | .slice t, xs, cs, e => by unfold Enc at e; obtain ⟨a, cap, e1, _⟩ := e; simp [e1, Gh.one]
 | .hnd i t, none, cs, e => by unfold Enc at e; simp [e, Gh.one]
 | .hnd i t, some y, cs, e => by unfold Enc at e; obtain ⟨k, es, km, e1, _⟩ := e; simp [e1, Gh.one]
theorem EncL.one {m : Mem} : (ts : List Ty) → ∀ {x : denL ts} {cs : List Value}, EncL m ts x cs → ∀ v ∈ cs, Gh.one v = true
 | [], _, _, e => by unfold EncL at e; simp [e]
 | t :: ts, x, cs, e => by
  unfold EncL at e
  obtain ⟨a, b, e1, e2, e3⟩ := e
  subst e1
  intro v hv
  rcases List.mem_append.1 hv with hv | hv
  ·exact Enc.one t e2 v hv
  ·exact EncL.one ts e3 v hv
end
section
variable {α : Type} {P : α → List Value → Prop} {s : Nat}
theorem Rows.append : ∀ {xs ys : List α} {as bs : List Value}, Rows P xs as → Rows P ys bs → Rows P (xs ++ ys) (as ++ bs)
 | [], _, _, _, r, r' => by simp [Rows] at r; simpa [r] using r'
 | x :: xs, _, _, _, ⟨a, b, e, p, r⟩, r' => ⟨a, b ++ _, by simp [e], p, Rows.append r r'⟩
theorem Rows.split : ∀ {xs ys : List α} {cs : List Value}, Rows P (xs ++ ys) cs → ∃ as bs, cs = as ++ bs ∧ Rows P xs as ∧ Rows P ys bs
 | [], _, cs, r => ⟨[], cs, rfl, rfl, r⟩
 | x :: xs, _, _, ⟨a, b, e, p, r⟩ => by
  obtain ⟨as, bs, e', h1, h2⟩ := Rows.split (xs := xs) r
  exact ⟨a ++ as, bs, by simp [e, e'], ⟨a, as, rfl, p, h1⟩, h2⟩
theorem Rows.single {x : α} {a : List Value} (h : P x a) : Rows P [x] a := ⟨a, [], by simp, h, rfl⟩
theorem Rows.parts (h : ∀ x cs, P x cs → cs.length = s) {xs : List α} {cs : List Value} (r : Rows P xs cs) {i : Nat} (hi : i < xs.length) :
  ∃ as a bs, cs = as ++ a ++ bs ∧ as.length = i * s ∧ a.length = s ∧ P xs[i] a ∧ Rows P (xs.take i) as ∧ Rows P (xs.drop (i + 1)) bs := by
 have e : xs = xs.take i ++ ([xs[i]] ++ xs.drop (i + 1)) := by simp
 rw [e] at r
 obtain ⟨as, b, e1, h1, h2⟩ := r.split
 obtain ⟨a, bs, e2, h3, h4⟩ := h2.split
 obtain ⟨a1, b1, e3, h5, h6⟩ := h3
 simp [Rows] at h6
 subst h6
 simp at e3
 subst e3
 refine ⟨as, a, bs, by simp [e1, e2], ?_, h _ _ h5, h5, h1, h4⟩
 have := Rows.len h h1
 simpa [Nat.min_eq_left (Nat.le_of_lt hi)] using this
theorem Rows.get (h : ∀ x cs, P x cs → cs.length = s) {xs : List α} {cs : List Value} (r : Rows P xs cs) {i : Nat} (hi : i < xs.length) (d : α) :
  P (xs.getD i d) ((cs.drop (i * s)).take s) := by
 obtain ⟨as, a, bs, e, l1, l2, p, _, _⟩ := r.parts h hi
 have : xs.getD i d = xs[i] := by simp [List.getD, hi]
 rw [this, e, List.append_assoc, ← l1, List.drop_left, ← l2, List.take_left]
 exact p
theorem Rows.set (h : ∀ x cs, P x cs → cs.length = s) {xs : List α} {cs : List Value} (r : Rows P xs cs) {i : Nat} (hi : i < xs.length) {y : α} {b : List Value} (hb : P y b) :
  Rows P (xs.set i y) (cs.take (i * s) ++ b ++ cs.drop (i * s + s)) := by
 obtain ⟨as, a, bs, e, l1, l2, p, h1, h2⟩ := r.parts h hi
 have e1 : cs.take (i * s) = as := by rw [e, List.append_assoc, ← l1, List.take_left]
 have e2 : cs.drop (i * s + s) = bs := by
  rw [e, ← l1, ← l2, ← List.length_append, List.drop_left]
 rw [e1, e2, List.set_eq_take_append_cons_drop, if_pos hi, List.append_assoc]
 exact h1.append ⟨b, bs, rfl, hb, h2⟩
theorem Rows.take (h : ∀ x cs, P x cs → cs.length = s) {xs : List α} {cs : List Value} (r : Rows P xs cs) (n : Nat) : Rows P (xs.take n) (cs.take (n * s)) := by
 rcases Nat.lt_or_ge n xs.length with hn | hn
 ·rw [← List.take_append_drop n xs] at r
  obtain ⟨as, bs, e, h1, h2⟩ := r.split
  have := Rows.len h h1
  simp [Nat.min_eq_left (Nat.le_of_lt hn)] at this
  rw [e, ← this, List.take_left]; exact h1
 ·rw [List.take_of_length_le hn, List.take_of_length_le]
  ·exact r
  ·rw [Rows.len h r]; exact Nat.mul_le_mul_right _ hn
theorem Rows.drop (h : ∀ x cs, P x cs → cs.length = s) {xs : List α} {cs : List Value} (r : Rows P xs cs) (n : Nat) : Rows P (xs.drop n) (cs.drop (n * s)) := by
 rcases Nat.lt_or_ge n xs.length with hn | hn
 ·rw [← List.take_append_drop n xs] at r
  obtain ⟨as, bs, e, h1, h2⟩ := r.split
  have := Rows.len h h1
  simp [Nat.min_eq_left (Nat.le_of_lt hn)] at this
  rw [e, ← this, List.drop_left]; exact h2
 ·rw [List.drop_eq_nil_of_le hn, List.drop_eq_nil_of_le]
  ·rfl
  ·rw [Rows.len h r]; exact Nat.mul_le_mul_right _ hn
theorem Rows.replicate {x : α} {a : List Value} (h : P x a) : ∀ n : Nat, Rows P (List.replicate n x) (List.replicate n a).flatten
 | 0 => rfl
 | n + 1 => ⟨a, (List.replicate n a).flatten, by simp [List.replicate_succ], h, Rows.replicate h n⟩
end
mutual
def zeros : Ty → List Value
 | .int k => [.int k 0]
 | .bool => [.bool false]
 | .str => [.string ByteArray.empty]
 | .struct fs => zerosL fs
 | .arr n t => (List.replicate n (zeros t)).flatten
 | .slice _ => [.slice none 0 0]
 | .hnd _ _ => [.pointer none]
def zerosL : List Ty → List Value
 | [] => []
 | t :: ts => zeros t ++ zerosL ts
end
mutual
theorem Enc.zero (m : Mem) : (t : Ty) → Enc m t (dflt t) (zeros t)
 | .int k => by unfold Enc dflt zeros; rfl
 | .bool => by unfold Enc dflt zeros; rfl
 | .str => by unfold Enc dflt zeros; rfl
 | .struct fs => by unfold Enc dflt zeros; exact EncL.zero m fs
 | .arr n t => by unfold Enc dflt zeros; exact ⟨by simp, Rows.replicate (Enc.zero m t) n⟩
 | .slice t => by unfold Enc dflt zeros; exact ⟨none, 0, rfl, Nat.le_refl _, fun h => absurd rfl h⟩
 | .hnd i t => by unfold dflt zeros Enc; rfl
theorem EncL.zero (m : Mem) : (ts : List Ty) → EncL m ts (dfltL ts) (zerosL ts)
 | [] => by unfold EncL zerosL; rfl
 | t :: ts => by unfold EncL dfltL zerosL; exact ⟨_, _, rfl, Enc.zero m t, EncL.zero m ts⟩
end
theorem EncL.field {m : Mem} : (fs : List Ty) → ∀ {x : denL fs} {cs : List Value} {k : Nat} {t : Ty} {y : den t}, EncL m fs x cs → fieldT fs x k = some ⟨t, y⟩ →
  fs[k]? = some t ∧ Enc m t y ((cs.drop (sizeL (fs.take k))).take (size t))
 | [], _, _, _, _, _, _, h => by simp [fieldT] at h
 | u :: us, x, cs, 0, t, y, e, h => by
  unfold EncL at e
  obtain ⟨a, b, e1, e2, e3⟩ := e
  simp only [fieldT, Option.some.injEq, Sigma.mk.injEq] at h
  obtain ⟨rfl, h⟩ := h
  cases h
  refine ⟨rfl, ?_⟩
  simp [sizeL, e1, ← Enc.len u e2, e2]
 | u :: us, x, cs, k + 1, t, y, e, h => by
  unfold EncL at e
  obtain ⟨a, b, e1, e2, e3⟩ := e
  simp only [fieldT] at h
  obtain ⟨h1, h2⟩ := EncL.field us e3 h
  refine ⟨by simpa using h1, ?_⟩
  have hl := Enc.len u e2
  rw [List.take_succ_cons, sizeL, e1, ← hl, ← List.drop_drop, List.drop_left]
  exact h2
end Go.Gh
/- The ghost machine: what a ghost value says of a machine's value. Conditions: none (definitions, and lemmas on them). -/
namespace Go.Gh
structure Env where
 m : Mem
 ρ : Nat → Option Nat
 H : Heap
def ofCells (agg : Bool) (cs : List Value) (v : Value) : Prop := if agg = true then v = .agg cs.toArray else cs = [v]
def AV.isTop : AV → Bool
 | .top => true
 | _ => false
mutual
def CC (E : Env) : AV → List Value → Prop
 | .dat t x, cs => Enc E.m t x cs
 | .agg fs, cs => CCL E fs cs
 | .arrL fs, cs => CCL E fs cs
 | .ptr id p, cs => ∃ v, cs = [v] ∧ one v = true ∧ (∀ b, hlook E.H id = some b → ∃ k, E.ρ id = some k ∧ v = .pointer (some ⟨k, offK (skB b) p, none⟩))
 | .cptr t x, cs => ∃ k off es, cs = [.pointer (some ⟨k, off, none⟩)] ∧ Enc E.m t x es ∧ Lies E.m k off es
 | .hp i t x, cs => Enc E.m (.hnd i t) (some x) cs
 | .hmp i t x, cs => ∃ k off km, cs = [.pointer (some ⟨k, off, none⟩)] ∧ Lies E.m k off [.map (some km)] ∧ E.m.M km = some (i, ⟨t, x⟩)
 | .full t x, cs => ∃ b, cs = [.slice b (List.length x) (List.length x)] ∧ Enc E.m (.slice t) x cs
 | .hm i t x, cs => ∃ km, cs = [.map (some km)] ∧ E.m.M km = some (i, ⟨t, x⟩)
 | .row id, cs => ∃ v, cs = [v] ∧ one v = true ∧ (∀ t xs l, hlook E.H id = some (.row t xs l) →
   (E.ρ id = none ∧ xs = [] ∧ ∃ a, v = .slice a 0 0) ∨
   ∃ k cap e, E.ρ id = some k ∧ v = .slice (some ⟨k, 0, none⟩) (List.length xs) cap ∧ List.length xs ≤ cap ∧ E.m.w.shape? k = some (e, cap * size t))
 | .sub id lo len, cs => ∃ v, cs = [v] ∧ one v = true ∧ (∀ t xs l, hlook E.H id = some (.row t xs l) → lo + len ≤ List.length xs ∧
   ∃ a cap, v = .slice a len cap ∧ len ≤ cap ∧ (0 < len → ∃ k, E.ρ id = some k ∧ a = some ⟨k, lo * size t, none⟩)) ∧
   (∀ b f n s, hlook E.H id = some (.box b f) → skA b = .rep n s → 0 < n → lo + len ≤ n ∧
   ∃ a cap, v = .slice a len cap ∧ len ≤ cap ∧ (0 < len → ∃ k, E.ρ id = some k ∧ a = some ⟨k, lo * sizeK s, none⟩))
 | .nilsl, cs => ∃ a, cs = [.slice a 0 0]
 | .nilp, cs => cs = [.pointer none]
 | .nilf, cs => cs = [.nilFunc]
 | .nilm, cs => cs = [.map none]
 | .fn f fs us, cs => ∃ vs ws, cs = [.func (.func f) vs.toArray ws.toArray] ∧ CVL E fs vs ∧ CVL E us ws
 | .yld g, cs => ∃ v, cs = [v] ∧ one v = true ∧ (∀ b, hlook E.H g = some b → ∃ k, E.ρ g = some k ∧ v = .func (.yield k) #[] #[])
 | .any, cs => ∃ v, cs = [v] ∧ one v = true
 | .tup _, _ => False
 | .top, _ => False
def CCL (E : Env) : List AV → List Value → Prop
 | [], cs => cs = []
 | a :: as, cs => ∃ x y, cs = x ++ y ∧ CC E a x ∧ CCL E as y
def CVL (E : Env) : List AV → List Value → Prop
 | [], vs => vs = []
 | a :: as, vs => ∃ v us, vs = v :: us ∧ ((∃ cs, CC E a cs ∧ ofCells a.isAgg cs v) ∨ a.isTop = true) ∧ CVL E as us
end
def CV (E : Env) : AV → Value → Prop
 | .top, _ => True
 | .tup fs, v => ∃ vs, v = .tuple vs.toArray ∧ CVL E fs vs
 | a, v => ∃ cs, CC E a cs ∧ ofCells a.isAgg cs v
theorem CV.mk {E : Env} {a : AV} {cs : List Value} {v : Value} (h : CC E a cs) (h' : ofCells a.isAgg cs v) : CV E a v := by
 cases a <;> first | exact ⟨cs, h, h'⟩ | (unfold CC at h; exact h.elim)
theorem CV.cells {E : Env} {a : AV} {v : Value} (h : CV E a v) (hb : skA a ≠ .bad) : ∃ cs, CC E a cs ∧ ofCells a.isAgg cs v := by
 cases a <;> first | exact h | exact absurd rfl hb
theorem castT_spec {t u : Ty} {x : den t} {y : den u} (h : castT t u x = some y) : ∃ e : t = u, e ▸ x = y := by
 unfold castT at h
 split at h
 ·rename_i e _
  exact ⟨e, by simpa using h⟩
 ·cases h
mutual
theorem eqSk_eq : ∀ {a b : Sk}, eqSk a b = true → a = b
 | .one, .one, _ => rfl
 | .node l, .node l', h => by simp only [eqSk] at h; rw [eqSkL_eq h]
 | .rep n s, .rep m s', h => by simp only [eqSk, Bool.and_eq_true, beq_iff_eq] at h; rw [h.1, eqSk_eq h.2]
 | .one, .bad, h | .one, .node _, h | .one, .rep _ _, h | .bad, _, h | .node _, .one, h | .node _, .bad, h | .node _, .rep _ _, h
 | .rep _ _, .one, h | .rep _ _, .bad, h | .rep _ _, .node _, h => by simp [eqSk] at h
theorem eqSkL_eq : ∀ {a b : List Sk}, eqSkL a b = true → a = b
 | [], [], _ => rfl
 | a :: as, b :: bs, h => by simp only [eqSkL, Bool.and_eq_true] at h; rw [eqSk_eq h.1, eqSkL_eq h.2]
 | [], _ :: _, h | _ :: _, [], h => by simp [eqSkL] at h
end
mutual
theorem size_sk : (t : Ty) → size t = sizeK (skT t)
 | .int _ | .bool | .str | .slice _ | .hnd _ _ => by simp [size, skT, sizeK]
 | .struct fs => by simp only [size, skT, sizeK]; exact sizeL_sk fs
 | .arr n t => by simp only [size, skT, sizeK]; rw [size_sk t]
theorem sizeL_sk : (ts : List Ty) → sizeL ts = sizeKL (skTL ts)
 | [] => rfl
 | t :: ts => by simp only [sizeL, skTL, sizeKL]; rw [size_sk t, sizeL_sk ts]
end
theorem skTL_map (ts : List Ty) : skTL ts = ts.map skT := by
 induction ts with
 | nil => rfl
 | cons t ts ih => simp [skTL, ih]
theorem skAL_map (ts : List AV) : skAL ts = ts.map skA := by
 induction ts with
 | nil => rfl
 | cons t ts ih => simp [skAL, ih]
theorem skTL_take (ts : List Ty) (k : Nat) : sizeKL ((skTL ts).take k) = sizeL (ts.take k) := by
 rw [skTL_map, ← List.map_take, ← skTL_map, sizeL_sk]
mutual
theorem CC.len {E : Env} : (a : AV) → ∀ {cs : List Value}, CC E a cs → cs.length = cells a
 | .dat t x, cs, h => by unfold CC at h; simp only [cells, skA]; rw [Enc.len t h, size_sk]
 | .agg fs, cs, h => by unfold CC at h; simp only [cells, skA, sizeK]; exact CCL.len fs h
 | .arrL fs, cs, h => by unfold CC at h; simp only [cells, skA, sizeK]; exact CCL.len fs h
 | .ptr _ _, cs, h | .row _, cs, h | .sub _ _ _, cs, h | .yld _, cs, h => by unfold CC at h; obtain ⟨v, rfl, _⟩ := h; rfl
 | .cptr _ _, cs, h | .hmp _ _ _, cs, h => by unfold CC at h; obtain ⟨k, off, es, rfl, _⟩ := h; rfl
 | .hp i t x, cs, h => by unfold CC at h; rw [Enc.len _ h]; rfl
 | .hm _ _ _, cs, h | .full _ _, cs, h => by unfold CC at h; obtain ⟨k, rfl, _⟩ := h; rfl
 | .nilsl, cs, h => by unfold CC at h; obtain ⟨k, rfl⟩ := h; rfl
 | .nilp, cs, h | .nilf, cs, h | .nilm, cs, h => by unfold CC at h; subst h; rfl
 | .fn _ _ _, cs, h => by unfold CC at h; obtain ⟨vs, ws, rfl, _⟩ := h; rfl
 | .tup _, cs, h => by unfold CC at h; exact h.elim
 | .any, cs, h => by unfold CC at h; obtain ⟨vs, rfl, _⟩ := h; rfl
 | .top, cs, h => by unfold CC at h; exact h.elim
theorem CCL.len {E : Env} : (as : List AV) → ∀ {cs : List Value}, CCL E as cs → cs.length = sizeKL (skAL as)
 | [], cs, h => by unfold CCL at h; subst h; rfl
 | a :: as, cs, h => by
  unfold CCL at h
  obtain ⟨x, y, rfl, h1, h2⟩ := h
  simp only [List.length_append, skAL, sizeKL, CC.len a h1, CCL.len as h2, cells]
end
def Goes (E E' : Env) (id : Nat) : Prop :=
 ∀ b', hlook E'.H id = some b' → ∃ b, hlook E.H id = some b ∧ E'.ρ id = E.ρ id ∧ skB b' = skB b ∧
  (∀ t xs l, b' = .row t xs l → ∃ xs0 l0, b = .row t xs0 l0 ∧ List.length xs0 = List.length xs)
mutual
theorem CC.to {E E' : Env} (h : E.m.le E'.m) : (a : AV) → (∀ id, men id a = true → Goes E E' id) → ∀ {cs : List Value}, CC E a cs → CC E' a cs
 | .dat t x, _, cs, c => by unfold CC at *; exact Enc.mono h t c
 | .agg fs, hm, cs, c => by unfold CC at *; exact CCL.to h fs (fun id hi => hm id (by simpa [men] using hi)) c
 | .arrL fs, hm, cs, c => by unfold CC at *; exact CCL.to h fs (fun id hi => hm id (by simpa [men] using hi)) c
 | .ptr id p, hm, cs, c => by
  unfold CC at *
  obtain ⟨v, rfl, h1, h2⟩ := c
  refine ⟨v, rfl, h1, fun b' hb' => ?_⟩
  obtain ⟨b, hb, hr, hs, _⟩ := hm id (by simp [men]) b' hb'
  obtain ⟨k, hk, rfl⟩ := h2 b hb
  exact ⟨k, by rw [hr, hk], by rw [hs]⟩
 | .cptr t x, _, cs, c => by
  unfold CC at *
  obtain ⟨k, off, es, rfl, h1, h2⟩ := c
  exact ⟨k, off, es, rfl, Enc.mono h t h1, h2.mono h⟩
 | .hp i t x, _, cs, c => by unfold CC at *; exact Enc.mono h _ c
 | .hmp i t x, _, cs, c => by
  unfold CC at *
  obtain ⟨k, off, km, rfl, h1, h2⟩ := c
  exact ⟨k, off, km, rfl, h1.mono h, h.memo _ _ h2⟩
 | .full t x, _, cs, c => by
  unfold CC at *
  obtain ⟨b, h1, h2⟩ := c
  exact ⟨b, h1, Enc.mono h (.slice t) h2⟩
 | .hm i t x, _, cs, c => by
  unfold CC at *
  obtain ⟨km, rfl, h2⟩ := c
  exact ⟨km, rfl, h.memo _ _ h2⟩
 | .row id, hm, cs, c => by
  unfold CC at *
  obtain ⟨v, rfl, h1, h2⟩ := c
  refine ⟨v, rfl, h1, fun t xs l hb' => ?_⟩
  obtain ⟨b, hb, hr, hs, hrow⟩ := hm id (by simp [men]) _ hb'
  obtain ⟨xs0, l0, rfl, hl⟩ := hrow t xs l rfl
  rcases h2 _ _ _ hb with ⟨e1, e2, e3⟩ | ⟨k, cap, e, e1, e2, e4, e3⟩
  ·left; subst e2; exact ⟨by rw [hr, e1], List.eq_nil_of_length_eq_zero hl.symm, e3⟩
  ·right; exact ⟨k, cap, e, by rw [hr, e1], by rw [e2, hl], by omega, h.shape _ _ e3⟩
 | .sub id lo len, hm, cs, c => by
  unfold CC at *
  obtain ⟨v, rfl, h1, h2, h3⟩ := c
  refine ⟨v, rfl, h1, fun t xs l hb' => ?_, fun b' f n s hb' hsk hn => ?_⟩
  ·obtain ⟨b, hb, hr, hs, hrow⟩ := hm id (by simp [men]) _ hb'
   obtain ⟨xs0, l0, rfl, hl⟩ := hrow t xs l rfl
   obtain ⟨g1, a, cap, g2, g3, g4⟩ := h2 _ _ _ hb
   exact ⟨by omega, a, cap, g2, g3, fun hp => by rw [hr]; exact g4 hp⟩
  ·obtain ⟨b, hb, hr, hs, _⟩ := hm id (by simp [men]) _ hb'
   simp only [skB] at hs
   rw [hsk] at hs
   cases b with
   | box b0 f0 =>
    simp only at hs
    obtain ⟨g1, a, cap, g2, g3, g4⟩ := h3 _ _ _ _ hb hs.symm hn
    exact ⟨g1, a, cap, g2, g3, fun hp => by rw [hr]; exact g4 hp⟩
   | row t xs l => simp only [Sk.rep.injEq] at hs; omega
   | loop => simp at hs
   | dfr => simp at hs
 | .nilsl, _, cs, c | .nilp, _, cs, c | .nilf, _, cs, c | .nilm, _, cs, c | .any, _, cs, c | .top, _, cs, c | .tup _, _, cs, c => by unfold CC at *; exact c
 | .fn f fs us, hm, cs, c => by
  unfold CC at *
  obtain ⟨vs, ws, rfl, h1, h2⟩ := c
  exact ⟨vs, ws, rfl, CVL.to h fs (fun id hi => hm id (by simp [men, hi])) h1, CVL.to h us (fun id hi => hm id (by simp [men, hi])) h2⟩
 | .yld g, hm, cs, c => by
  unfold CC at *
  obtain ⟨v, rfl, h1, h2⟩ := c
  refine ⟨v, rfl, h1, fun b' hb' => ?_⟩
  obtain ⟨b, hb, hr, hs, _⟩ := hm g (by simp [men]) b' hb'
  rw [hr]; exact h2 b hb
theorem CCL.to {E E' : Env} (h : E.m.le E'.m) : (as : List AV) → (∀ id, menL id as = true → Goes E E' id) → ∀ {cs : List Value}, CCL E as cs → CCL E' as cs
 | [], _, cs, c => by unfold CCL at *; exact c
 | a :: as, hm, cs, c => by
  unfold CCL at *
  obtain ⟨x, y, rfl, h1, h2⟩ := c
  exact ⟨x, y, rfl, CC.to h a (fun id hi => hm id (by simp [menL, hi])) h1, CCL.to h as (fun id hi => hm id (by simp [menL, hi])) h2⟩
theorem CVL.to {E E' : Env} (h : E.m.le E'.m) : (as : List AV) → (∀ id, menL id as = true → Goes E E' id) → ∀ {vs : List Value}, CVL E as vs → CVL E' as vs
 | [], _, cs, c => by unfold CVL at *; exact c
 | a :: as, hm, cs, c => by
  unfold CVL at *
  obtain ⟨x, y, rfl, h1, h2⟩ := c
  refine ⟨x, y, rfl, h1.imp (fun ⟨cs, p, q⟩ => ⟨cs, CC.to h a (fun id hi => hm id (by simp [menL, hi])) p, q⟩) id, CVL.to h as (fun id hi => hm id (by simp [menL, hi])) h2⟩
end
theorem CV.to {E E' : Env} (h : E.m.le E'.m) {a : AV} (hm : ∀ id, men id a = true → Goes E E' id) {v : Value} (c : CV E a v) : CV E' a v :=
 by
 cases a with
 | top => trivial
 | tup fs => obtain ⟨vs, rfl, h1⟩ := c; exact ⟨vs, rfl, CVL.to h fs (fun id hi => hm id (by simpa [men] using hi)) h1⟩
 | _ => obtain ⟨cs, p, q⟩ := c; exact ⟨cs, CC.to h _ hm p, q⟩
mutual
theorem CC.one {E : Env} : (a : AV) → ∀ {cs : List Value}, CC E a cs → (∀ v ∈ cs, Gh.one v = true)
 | .dat t x, cs, h => by unfold CC at h; exact Enc.one t h
 | .agg fs, cs, h => by unfold CC at h; exact CCL.one fs h
 | .arrL fs, cs, h => by unfold CC at h; exact CCL.one fs h
 | .ptr _ _, cs, h | .row _, cs, h | .sub _ _ _, cs, h | .yld _, cs, h => by unfold CC at h; obtain ⟨v, rfl, h, _⟩ := h; simp [h]
 | .cptr _ _, cs, h | .hmp _ _ _, cs, h => by unfold CC at h; obtain ⟨k, off, es, rfl, _⟩ := h; simp [Gh.one]
 | .hp i t x, cs, h => by unfold CC at h; exact Enc.one _ h
 | .hm _ _ _, cs, h | .full _ _, cs, h => by unfold CC at h; obtain ⟨k, rfl, _⟩ := h; simp [Gh.one]
 | .nilsl, cs, h => by unfold CC at h; obtain ⟨k, rfl⟩ := h; simp [Gh.one]
 | .nilp, cs, h | .nilf, cs, h | .nilm, cs, h => by unfold CC at h; subst h; simp [Gh.one]
 | .fn _ _ _, cs, h => by unfold CC at h; obtain ⟨vs, ws, rfl, _⟩ := h; simp [Gh.one]
 | .any, cs, h => by unfold CC at h; obtain ⟨v, rfl, h⟩ := h; simp [h]
 | .tup _, cs, h | .top, cs, h => by unfold CC at h; exact h.elim
theorem CCL.one {E : Env} : (as : List AV) → ∀ {cs : List Value}, CCL E as cs → (∀ v ∈ cs, Gh.one v = true)
 | [], cs, h => by unfold CCL at h; subst h; simp
 | a :: as, cs, h => by
  unfold CCL at h
  obtain ⟨x, y, rfl, h1, h2⟩ := h
  intro v hv
  rcases List.mem_append.1 hv with hv | hv
  ·exact CC.one a h1 v hv
  ·exact CCL.one as h2 v hv
end
def cut (cs : List Value) (o n : Nat) : List Value := (cs.drop o).take n
theorem cut_cut {cs : List Value} {o n p k : Nat} (h : p + k ≤ n) : cut (cut cs o n) p k = cut cs (o + p) k := by
 simp only [cut, List.drop_take, List.take_take, List.drop_drop]
 rw [Nat.min_eq_left (by omega)]
theorem cut_len {cs : List Value} {o n : Nat} (h : o + n ≤ cs.length) : (cut cs o n).length = n := by
 simp only [cut, List.length_take, List.length_drop]; omega
theorem cut_all {cs : List Value} {n : Nat} (h : cs.length = n) : cut cs 0 n = cs := by simp [cut, ← h]
theorem sizeL_take_le : ∀ (fs : List Ty) (k : Nat) (t : Ty), fs[k]? = some t → sizeL (fs.take k) + size t ≤ sizeL fs
 | [], k, t, h => by simp at h
 | u :: us, 0, t, h => by simp at h; subst h; simp [sizeL]
 | u :: us, k + 1, t, h => by
  have := sizeL_take_le us k t (by simpa using h)
  simp [sizeL]; omega
section
variable {R : Type}
theorem getT_spec {m : Mem} : ∀ (p : List Nat) {t : Ty} {x : den t} {cs : List Value} {g : AV → Option R} {r : R}, Enc m t x cs → getT p t x g = some r →
  ∃ u y, g (.dat u y) = some r ∧ Enc m u y (cut cs (offK (skT t) p) (size u)) ∧ offK (skT t) p + size u ≤ cs.length
 | [], t, x, cs, g, r, he, h => by
  simp only [getT] at h
  have hl := Enc.len t he
  exact ⟨t, x, h, by rw [show offK (skT t) [] = 0 from by simp [offK], cut_all hl]; exact he, by simp [offK, hl]⟩
 | k :: p, .struct fs, x, cs, g, r, he, h => by
  simp only [getT] at h
  split at h
  ·rename_i t y hf
   unfold Enc at he
   obtain ⟨h1, h2⟩ := EncL.field fs he hf
   obtain ⟨u, z, h3, h4, h5⟩ := getT_spec p h2 h
   have hl := EncL.len fs he
   have hle := sizeL_take_le fs k t h1
   rw [List.length_take, List.length_drop] at h5
   have e : offK (skT (.struct fs)) (k :: p) = sizeL (fs.take k) + offK (skT t) p := by
    simp only [skT, offK, skTL_take]
    congr 2
    rw [skTL_map, List.getD, List.getElem?_map, h1]; rfl
   refine ⟨u, z, h3, ?_, ?_⟩
   ·rw [e]
    rw [show List.take (size t) (List.drop (sizeL (List.take k fs)) cs) = cut cs (sizeL (fs.take k)) (size t) from rfl, cut_cut (by omega)] at h4
    exact h4
   ·rw [e]; omega
  ·cases h
 | i :: p, .arr n t, xs, cs, g, r, he, h => by
  simp only [getT] at h
  unfold Enc at he
  rcases Nat.lt_or_ge i n with hi | hi
  ·rw [decide_eq_true hi] at h
   simp only [cond_true] at h
   have hx : i < List.length xs := by rw [he.1]; exact hi
   have h2 := he.2.get (s := size t) (fun x cs p => Enc.len t p) hx (dflt t)
   obtain ⟨u, z, h3, h4, h5⟩ := getT_spec p h2 h
   have hl := Rows.len (s := size t) (fun x cs p => Enc.len t p) he.2
   rw [he.1] at hl
   have hm : (i + 1) * size t ≤ n * size t := Nat.mul_le_mul_right _ hi
   rw [Nat.add_mul, Nat.one_mul] at hm
   rw [List.length_take, List.length_drop] at h5
   have e : offK (skT (.arr n t)) (i :: p) = i * size t + offK (skT t) p := by simp only [skT, offK, size_sk]
   refine ⟨u, z, h3, ?_, ?_⟩
   ·rw [e]
    rw [show List.take (size t) (List.drop (i * size t) cs) = cut cs (i * size t) (size t) from rfl, cut_cut (by omega)] at h4
    exact h4
   ·rw [e]; omega
  ·rw [decide_eq_false (by omega)] at h
   cases h
 | _ :: _, .int _, _, _, _, _, _, h | _ :: _, .bool, _, _, _, _, _, h | _ :: _, .str, _, _, _, _, _, h | _ :: _, .slice _, _, _, _, _, _, h | _ :: _, .hnd _ _, _, _, _, _, _, h => by
  simp [getT] at h
theorem splitN_spec {i : Nat} {f : Nat → Option R} {r : R} : ∀ {n j : Nat}, splitN i f j n = some r → j ≤ i ∧ i < j + n ∧ f i = some r
 | 0, j, h => by simp [splitN] at h
 | n + 1, j, h => by
  simp only [splitN] at h
  by_cases e : i = j
  ·subst e; simp at h; exact ⟨Nat.le_refl _, by omega, h⟩
  ·rw [decide_eq_false e] at h
   obtain ⟨a, b, c⟩ := splitN_spec (n := n) h
   exact ⟨by omega, by omega, c⟩
theorem CCL.at {E : Env} : ∀ {as : List AV} {cs : List Value} {k : Nat} {a : AV}, CCL E as cs → as[k]? = some a →
  CC E a (cut cs (sizeKL ((skAL as).take k)) (cells a)) ∧ sizeKL ((skAL as).take k) + cells a ≤ cs.length
 | [], _, _, _, _, h => by simp at h
 | b :: bs, cs, 0, a, hc, h => by
  simp at h; subst h
  unfold CCL at hc
  obtain ⟨x, y, rfl, h1, h2⟩ := hc
  have hl := CC.len b h1
  simp [sizeKL, cut, ← hl, h1]
 | b :: bs, cs, k + 1, a, hc, h => by
  unfold CCL at hc
  obtain ⟨x, y, rfl, h1, h2⟩ := hc
  have hl := CC.len b h1
  obtain ⟨h3, h4⟩ := CCL.at h2 (by simpa using h)
  have e : sizeKL ((skAL (b :: bs)).take (k + 1)) = x.length + sizeKL ((skAL bs).take k) := by simp [skAL, sizeKL, hl, cells]
  rw [e]
  refine ⟨?_, by simp; omega⟩
  rw [cut, ← List.drop_drop, List.drop_left]
  exact h3
theorem getA_spec {E : Env} : ∀ (p : List Nat) {a : AV} {cs : List Value} {g : AV → Option R} {r : R}, CC E a cs → getA p a g = some r →
  ∃ b, g b = some r ∧ CC E b (cut cs (offK (skA a) p) (cells b)) ∧ offK (skA a) p + cells b ≤ cs.length := by
 intro p
 induction p with
 | nil =>
  intro a cs g r hc h
  simp only [getA] at h
  have hl := CC.len a hc
  exact ⟨a, h, by rw [show offK (skA a) [] = 0 from by simp [offK], cut_all hl]; exact hc, by simp [offK, hl]⟩
 | cons k p ih =>
  intro a cs g r hc h
  cases a with
  | dat t x =>
   simp only [getA] at h
   unfold CC at hc
   obtain ⟨u, y, h1, h2, h3⟩ := getT_spec (k :: p) hc h
   have hs : cells (.dat u y) = size u := by simp only [cells, skA, size_sk]
   exact ⟨.dat u y, h1, by unfold CC; rw [hs]; exact h2, by rw [hs]; exact h3⟩
  | agg fs =>
   simp only [getA] at h
   split at h
   ·rename_i a ha
    unfold CC at hc
    obtain ⟨h1, h2⟩ := CCL.at hc ha
    obtain ⟨b, h3, h4, h5⟩ := ih h1 h
    rw [cut_len h2] at h5
    have e : offK (skA (.agg fs)) (k :: p) = sizeKL ((skAL fs).take k) + offK (skA a) p := by
     simp only [skA, offK]
     congr 2
     rw [skAL_map, List.getD, List.getElem?_map, ha]; rfl
    exact ⟨b, h3, by rw [e, ← cut_cut h5]; exact h4, by rw [e]; omega⟩
   ·cases h
  | arrL fs =>
   simp only [getA] at h
   obtain ⟨_, _, h⟩ := splitN_spec h
   split at h
   ·rename_i a ha
    unfold CC at hc
    obtain ⟨h1, h2⟩ := CCL.at hc ha
    obtain ⟨b, h3, h4, h5⟩ := ih h1 h
    rw [cut_len h2] at h5
    have e : offK (skA (.arrL fs)) (k :: p) = sizeKL ((skAL fs).take k) + offK (skA a) p := by
     simp only [skA, offK]
     congr 2
     rw [skAL_map, List.getD, List.getElem?_map, ha]; rfl
    exact ⟨b, h3, by rw [e, ← cut_cut h5]; exact h4, by rw [e]; omega⟩
   ·cases h
  | _ => simp [getA] at h
def put (cs : List Value) (o : Nat) (bs : List Value) : List Value := cs.take o ++ bs ++ cs.drop (o + bs.length)
theorem put_len {cs bs : List Value} {o : Nat} (h : o + bs.length ≤ cs.length) : (put cs o bs).length = cs.length := by
 simp only [put, List.length_append, List.length_take, List.length_drop]; omega
theorem put_app {xs ys bs : List Value} {o : Nat} (h : o + bs.length ≤ xs.length) : put (xs ++ ys) o bs = put xs o bs ++ ys := by
 simp only [put]
 rw [List.take_append_of_le_length (by omega), List.drop_append_of_le_length (by omega)]
 simp
theorem put_app_right {xs ys bs : List Value} {o : Nat} : put (xs ++ ys) (xs.length + o) bs = xs ++ put ys o bs := by
 simp only [put]
 rw [List.take_append, List.take_of_length_le (by omega), Nat.add_assoc, ← List.drop_drop, List.drop_left]
 simp
theorem put_cut {cs bs : List Value} {o n p : Nat} (h : o + n ≤ cs.length) (hp : p + bs.length ≤ n) :
  put cs (o + p) bs = cs.take o ++ put (cut cs o n) p bs ++ cs.drop (o + n) := by
 have e : cs = cs.take o ++ (cut cs o n ++ cs.drop (o + n)) := by
  have h1 : cut cs o n ++ cs.drop (o + n) = cs.drop o := by
   rw [cut, ← List.drop_drop, List.take_append_drop]
  rw [h1, List.take_append_drop]
 have hl : (cs.take o).length = o := by rw [List.length_take]; omega
 have := put_app_right (xs := cs.take o) (ys := cut cs o n ++ cs.drop (o + n)) (bs := bs) (o := p)
 rw [hl, ← e] at this
 rw [this, put_app (by rw [cut_len h]; exact hp)]
 simp
theorem setFs_spec {m : Mem} : ∀ (fs : List Ty) {x : denL fs} {cs : List Value} {k : Nat} {w : (t : Ty) → den t → (den t → Option R) → Option R} {g : denL fs → Option R} {r : R} {o len : Nat} {bs : List Value},
  EncL m fs x cs → setFs fs x k w g = some r →
  (∀ t (y : den t) (ds : List Value) (g' : den t → Option R), fs[k]? = some t → Enc m t y ds → w t y g' = some r →
    ∃ z, g' z = some r ∧ Enc m t z (put ds o bs) ∧ o + bs.length ≤ ds.length) → bs.length = len →
  ∃ t, fs[k]? = some t ∧ ∃ y, g y = some r ∧ EncL m fs y (put cs (sizeL (fs.take k) + o) bs) ∧ sizeL (fs.take k) + o + bs.length ≤ cs.length
 | [], _, _, _, _, _, _, _, _, _, _, h, _, _ => by simp [setFs] at h
 | t :: ts, x, cs, 0, w, g, r, o, len, bs, he, h, hw, hb => by
  simp only [setFs] at h
  unfold EncL at he
  obtain ⟨a, b, rfl, h1, h2⟩ := he
  obtain ⟨z, h3, h4, h5⟩ := hw t x.1 a _ rfl h1 h
  refine ⟨t, rfl, _, h3, ?_, ?_⟩
  ·unfold EncL
   simp only [List.take_zero, sizeL, Nat.zero_add]
   exact ⟨_, _, put_app h5, h4, h2⟩
  ·simp [sizeL]; omega
 | t :: ts, x, cs, k + 1, w, g, r, o, len, bs, he, h, hw, hb => by
  simp only [setFs] at h
  unfold EncL at he
  obtain ⟨a, b, rfl, h1, h2⟩ := he
  obtain ⟨u, h3, y, h4, h5, h6⟩ := setFs_spec ts h2 h (fun t y ds g' ht => hw t y ds g' (by simpa using ht)) hb
  have hl := Enc.len t h1
  refine ⟨u, by simpa using h3, _, h4, ?_, ?_⟩
  ·unfold EncL
   refine ⟨a, _, ?_, h1, h5⟩
   rw [List.take_succ_cons, sizeL, ← hl, Nat.add_assoc]
   exact put_app_right
  ·rw [List.take_succ_cons, sizeL, List.length_append]; omega
theorem setT_spec {m : Mem} {u : Ty} {y : den u} {bs : List Value} (hb : Enc m u y bs) : ∀ (p : List Nat) {t : Ty} {x : den t} {cs : List Value} {g : den t → Option R} {r : R},
  Enc m t x cs → setT p u y t x g = some r →
  ∃ z, g z = some r ∧ Enc m t z (put cs (offK (skT t) p) bs) ∧ offK (skT t) p + bs.length ≤ cs.length
 | [], t, x, cs, g, r, he, h => by
  simp only [setT] at h
  split at h
  ·rename_i z hz
   obtain ⟨rfl, rfl⟩ := castT_spec hz
   have h1 := Enc.len u he
   have h2 := Enc.len u hb
   have h0 : offK (skT u) [] = 0 := by simp [offK]
   refine ⟨y, h, ?_, by omega⟩
   rw [h0, put, h2, ← h1]
   simpa using hb
  ·cases h
 | k :: p, .struct fs, x, cs, g, r, he, h => by
  simp only [setT] at h
  unfold Enc at he
  cases hk : fs[k]? with
  | none =>
   exfalso
   have : ∀ (fs : List Ty) (x : denL fs) (k : Nat) w (g : denL fs → Option R), fs[k]? = none → setFs fs x k w g = none := by
    intro fs
    induction fs with
    | nil => intros; rfl
    | cons t ts ih =>
     intro x k w g hk
     cases k with
     | zero => simp at hk
     | succ k => simp only [setFs]; exact ih _ _ _ _ (by simpa using hk)
   rw [this fs x k _ g hk] at h
   cases h
  | some t =>
   obtain ⟨t', h1, z, h2, h3, h4⟩ := setFs_spec fs (o := offK (skT t) p) (bs := bs) he h (fun t' y' ds g' ht he' hw => by
    have : t' = t := by rw [hk] at ht; exact (Option.some.inj ht).symm
    subst this
    exact setT_spec hb p he' hw) rfl
   have e : offK (skT (.struct fs)) (k :: p) = sizeL (fs.take k) + offK (skT t) p := by
    simp only [skT, offK, skTL_take]
    congr 2
    rw [skTL_map, List.getD, List.getElem?_map, hk]; rfl
   exact ⟨z, h2, by unfold Enc; rw [e]; exact h3, by rw [e]; exact h4⟩
 | i :: p, .arr n t, xs, cs, g, r, he, h => by
  simp only [setT] at h
  unfold Enc at he
  rcases Nat.lt_or_ge i n with hi | hi
  ·rw [decide_eq_true hi] at h
   simp only [cond_true] at h
   have hx : i < List.length xs := by rw [he.1]; exact hi
   have hlen : ∀ (x : den t) cs, Enc m t x cs → cs.length = size t := fun x cs p => Enc.len t p
   have h2 := he.2.get (s := size t) hlen hx (dflt t)
   obtain ⟨z, h3, h4, h5⟩ := setT_spec hb p h2 h
   have hl := Rows.len (s := size t) hlen he.2
   rw [he.1] at hl
   have hm : (i + 1) * size t ≤ n * size t := Nat.mul_le_mul_right _ hi
   rw [Nat.add_mul, Nat.one_mul] at hm
   rw [List.length_take, List.length_drop] at h5
   have e : offK (skT (.arr n t)) (i :: p) = i * size t + offK (skT t) p := by simp only [skT, offK, size_sk]
   refine ⟨_, h3, ?_, by rw [e]; omega⟩
   unfold Enc
   refine ⟨by simp [he.1], ?_⟩
   have h6 := he.2.set hlen hx h4
   rw [e, put_cut (n := size t) (by omega) (by omega)]
   exact h6
  ·rw [decide_eq_false (by omega)] at h
   cases h
 | _ :: _, .int _, _, _, _, _, _, h | _ :: _, .bool, _, _, _, _, _, h | _ :: _, .str, _, _, _, _, _, h | _ :: _, .slice _, _, _, _, _, _, h | _ :: _, .hnd _ _, _, _, _, _, _, h => by
  simp [setT] at h
theorem CCL.put {E : Env} : ∀ {as : List AV} {cs : List Value} {k : Nat} {a z : AV} {o : Nat} {bs : List Value}, CCL E as cs → as[k]? = some a →
  CC E z (Gh.put (cut cs (sizeKL ((skAL as).take k)) (cells a)) o bs) → o + bs.length ≤ cells a → CCL E (as.set k z) (Gh.put cs (sizeKL ((skAL as).take k) + o) bs)
 | [], _, _, _, _, _, _, _, h, _, _ => by simp at h
 | b :: as, cs, 0, a, z, o, bs, hc, h, hz, ho => by
  simp at h; subst h
  unfold CCL at hc
  obtain ⟨x, y, rfl, h1, h2⟩ := hc
  have hl := CC.len b h1
  simp only [List.take_zero, sizeKL, Nat.zero_add, List.set_cons_zero] at *
  unfold CCL
  refine ⟨_, y, put_app (by omega), ?_, h2⟩
  simpa [cut, ← hl] using hz
 | b :: as, cs, k + 1, a, z, o, bs, hc, h, hz, ho => by
  unfold CCL at hc
  obtain ⟨x, y, rfl, h1, h2⟩ := hc
  have hl := CC.len b h1
  have e : sizeKL ((skAL (b :: as)).take (k + 1)) = x.length + sizeKL ((skAL as).take k) := by simp [skAL, sizeKL, hl, cells]
  rw [e] at hz ⊢
  rw [cut, ← List.drop_drop, List.drop_left] at hz
  simp only [List.set_cons_succ]
  unfold CCL
  refine ⟨x, _, ?_, h1, CCL.put h2 (by simpa using h) hz ho⟩
  rw [Nat.add_assoc]; exact put_app_right
theorem skAL_set : ∀ {as : List AV} {k : Nat} {a z : AV}, as[k]? = some a → skA z = skA a → skAL (as.set k z) = skAL as
 | [], _, _, _, h, _ => by simp at h
 | b :: as, 0, a, z, h, hz => by simp at h; subst h; simp [skAL, hz]
 | b :: as, k + 1, a, z, h, hz => by simp [skAL]; exact skAL_set (by simpa using h) hz
theorem fieldsT_CCL {E : Env} : (fs : List Ty) → ∀ {x : denL fs} {cs : List Value}, EncL E.m fs x cs → CCL E (fieldsT fs x) cs
 | [], _, _, h => by unfold EncL at h; simp only [fieldsT]; unfold CCL; exact h
 | t :: ts, x, cs, h => by
  unfold EncL at h
  obtain ⟨a, b, rfl, h1, h2⟩ := h
  simp only [fieldsT]
  unfold CCL
  exact ⟨a, b, rfl, by unfold CC; exact h1, fieldsT_CCL ts h2⟩
theorem fieldsT_sk : (fs : List Ty) → ∀ {x : denL fs}, skAL (fieldsT fs x) = skTL fs
 | [], _ => rfl
 | t :: ts, x => by simp [fieldsT, skAL, skTL, skA, fieldsT_sk ts]
theorem setA_spec {E : Env} {b : AV} {bs : List Value} (hb : CC E b bs) : ∀ (p : List Nat) {a : AV} {cs : List Value} {g : AV → Option R} {r : R},
  CC E a cs → setA p b a g = some r →
  ∃ a', g a' = some r ∧ CC E a' (put cs (offK (skA a) p) bs) ∧ skA a' = skA a ∧ offK (skA a) p + bs.length ≤ cs.length ∧ (p ≠ [] → a'.isAgg = a.isAgg) := by
 have viaL : ∀ (k : Nat) (p : List Nat), (∀ {a : AV} {cs : List Value} {g : AV → Option R} {r : R}, CC E a cs → setA p b a g = some r →
   ∃ a', g a' = some r ∧ CC E a' (put cs (offK (skA a) p) bs) ∧ skA a' = skA a ∧ offK (skA a) p + bs.length ≤ cs.length ∧ (p ≠ [] → a'.isAgg = a.isAgg)) →
   ∀ {fs : List AV} {cs : List Value} {a : AV} {g : AV → Option R} {r : R}, CCL E fs cs → fs[k]? = some a → setA p b a g = some r →
   ∃ a', g a' = some r ∧ CCL E (fs.set k a') (put cs (offK (.node (skAL fs)) (k :: p)) bs) ∧ skAL (fs.set k a') = skAL fs ∧ offK (.node (skAL fs)) (k :: p) + bs.length ≤ cs.length := by
  intro k p ih fs cs a g r hc ha h
  obtain ⟨h1, h2⟩ := CCL.at hc ha
  obtain ⟨a', h3, h4, h5, h6, _⟩ := ih h1 h
  rw [cut_len h2] at h6
  have e : offK (.node (skAL fs)) (k :: p) = sizeKL ((skAL fs).take k) + offK (skA a) p := by
   simp only [offK]
   congr 2
   rw [skAL_map, List.getD, List.getElem?_map, ha]; rfl
  exact ⟨a', h3, by rw [e]; exact CCL.put hc ha h4 h6, skAL_set ha h5, by rw [e]; omega⟩
 intro p
 induction p with
 | nil =>
  intro a cs g r hc h
  have h0 : offK (skA a) [] = 0 := by simp [offK]
  simp only [setA] at h
  cases hs : eqSk (skA b) (skA a) with
  | false => rw [hs] at h; cases h
  | true =>
   rw [hs] at h
   have hs := eqSk_eq hs
   have h1 := CC.len a hc
   have h2 := CC.len b hb
   have h3 : bs.length = cs.length := by rw [h1, h2, cells, cells, hs]
   refine ⟨b, h, ?_, hs, by omega, fun hn => absurd rfl hn⟩
   rw [h0, put, h3]
   simpa using hb
 | cons k p ih =>
  intro a cs g r hc h
  cases a with
  | dat t x =>
   by_cases hdb : ∃ u y, b = .dat u y
   ·obtain ⟨u, y, rfl⟩ := hdb
    simp only [setA] at h
    unfold CC at hc hb
    obtain ⟨z, h1, h2, h3⟩ := setT_spec hb (k :: p) hc h
    exact ⟨.dat t z, h1, by unfold CC; exact h2, rfl, h3, fun _ => rfl⟩
   ·cases t with
    | struct fs =>
     have h' : ∃ a, (fieldsT fs x)[k]? = some a ∧ setA p b a (fun z => g (.agg ((fieldsT fs x).set k z))) = some r := by
      cases b with
      | dat u y => exact absurd ⟨u, y, rfl⟩ hdb
      | _ =>
       simp only [setA] at h
       split at h
       ·exact ⟨_, by assumption, h⟩
       ·cases h
     obtain ⟨a, ha, h'⟩ := h'
     unfold CC at hc
     unfold Enc at hc
     obtain ⟨a', h1, h2, h3, h4⟩ := viaL k p ih (fieldsT_CCL fs hc) ha h'
     rw [fieldsT_sk] at h2 h3 h4
     exact ⟨_, h1, by unfold CC; simp only [skA, skT]; exact h2, by simp only [skA, skT]; rw [h3], by simp only [skA, skT]; exact h4, fun _ => rfl⟩
    | _ => cases b <;> first | exact absurd ⟨_, _, rfl⟩ hdb | (simp [setA] at h)
  | agg fs =>
   have h' : ∃ a, fs[k]? = some a ∧ setA p b a (fun z => g (.agg (fs.set k z))) = some r := by
    cases b <;> (simp only [setA] at h; split at h; (first | exact ⟨_, by assumption, h⟩); cases h)
   obtain ⟨a, ha, h'⟩ := h'
   unfold CC at hc
   obtain ⟨a', h1, h2, h3, h4⟩ := viaL k p ih hc ha h'
   exact ⟨_, h1, by unfold CC; simp only [skA]; exact h2, by simp only [skA]; rw [h3], by simp only [skA]; exact h4, fun _ => rfl⟩
  | arrL fs =>
   have h' : ∃ a, fs[k]? = some a ∧ setA p b a (fun z => g (.arrL (fs.set k z))) = some r := by
    cases b <;> (simp only [setA] at h; obtain ⟨_, _, h⟩ := splitN_spec h; split at h; (first | exact ⟨_, by assumption, h⟩); cases h)
   obtain ⟨a, ha, h'⟩ := h'
   unfold CC at hc
   obtain ⟨a', h1, h2, h3, h4⟩ := viaL k p ih hc ha h'
   exact ⟨_, h1, by unfold CC; simp only [skA]; exact h2, by simp only [skA]; rw [h3], by simp only [skA]; exact h4, fun _ => rfl⟩
  | _ => cases b <;> simp [setA] at h
end
def LentOK (E : Env) : Prop := ∀ id t xs, hlook E.H id = some (.row t xs true) → xs = [] ∨ ∃ k es, E.ρ id = some k ∧ Rows (Enc E.m t) xs es ∧ Lies E.m k 0 es
theorem Lies.sub {m : Mem} {k off o n : Nat} {cs : List Value} (h : Lies m k off cs) : Lies m k (off + o) (cut cs o n) := by
 intro j v hj
 have : cs[o + j]? = some v := by
  simp only [cut, List.getElem?_take, List.getElem?_drop] at hj
  split at hj
  ·exact hj
  ·cases hj
 have := h (o + j) v this
 rwa [Nat.add_assoc]
mutual
theorem toDat_spec {E : Env} (hl : LentOK E) : (t : Ty) → (a : AV) → ∀ {x : den t} {cs : List Value}, CC E a cs → toDat E.H t a = some x → Enc E.m t x cs
 | t, .dat u y, x, cs, hc, h => by
  simp only [toDat] at h
  unfold CC at hc
  obtain ⟨rfl, rfl⟩ := castT_spec h
  exact hc
 | .slice t, .nilsl, x, cs, hc, h => by
  simp only [toDat, Option.some.injEq] at h
  subst h
  unfold CC at hc
  obtain ⟨a, rfl⟩ := hc
  unfold Enc
  exact ⟨a, 0, rfl, Nat.le_refl _, fun h => absurd rfl h⟩
 | .hnd i t, .nilp, x, cs, hc, h => by
  simp only [toDat, Option.some.injEq] at h
  subst h
  unfold CC at hc
  subst hc
  unfold Enc
  rfl
 | .hnd i t, .hp j u y, x, cs, hc, h => by
  simp only [toDat] at h
  split at h
  ·rename_i hij
   split at h
   ·rename_i z hz
    simp only [Option.some.injEq] at h
    obtain ⟨rfl, rfl⟩ := castT_spec hz
    subst h hij
    unfold CC at hc
    exact hc
   ·cases h
  ·cases h
 | .slice t, .row id, x, cs, hc, h => by
  simp only [toDat] at h
  split at h
  ·rename_i u xs hr
   obtain ⟨e, rfl⟩ := castT_spec h
   cases e
   unfold CC at hc
   obtain ⟨v, rfl, _, hv⟩ := hc
   unfold Enc
   rcases hv _ _ _ hr with ⟨_, rfl, a, rfl⟩ | ⟨k, cap, e, h1, rfl, h2, _⟩
   ·exact ⟨a, 0, rfl, Nat.le_refl _, fun h => absurd rfl h⟩
   ·refine ⟨_, cap, rfl, h2, fun hn => ?_⟩
    rcases hl id _ _ hr with h3 | ⟨k', es, h3, h4, h5⟩
    ·exact absurd h3 hn
    ·rw [h1] at h3; cases h3
     exact ⟨k, 0, es, rfl, h4, h5⟩
  ·cases h
 | .slice t, .sub id lo len, x, cs, hc, h => by
  simp only [toDat] at h
  split at h
  ·rename_i u xs hr
   obtain ⟨e, rfl⟩ := castT_spec h
   cases e
   unfold CC at hc
   obtain ⟨v, rfl, _, hv, _⟩ := hc
   obtain ⟨h1, a, cap, rfl, h2, h3⟩ := hv _ _ _ hr
   have hlen : List.length (List.take len (List.drop lo xs)) = len := by simp; omega
   unfold Enc
   refine ⟨a, cap, ?_, ?_, fun hn => ?_⟩
   ·show _ = [Value.slice a (List.length (List.take len (List.drop lo xs))) cap]
    rw [hlen]
   ·show List.length (List.take len (List.drop lo xs)) ≤ cap
    rw [hlen]; exact h2
   ·have hp : 0 < len := by
     rcases Nat.eq_zero_or_pos len with h0 | h0
     ·exact absurd (by subst h0; simp) hn
     ·exact h0
    obtain ⟨k, hk, ha⟩ := h3 hp
    rcases hl id _ _ hr with h4 | ⟨k', es, h4, h5, h6⟩
    ·subst h4; simp at h1; omega
    ·rw [hk] at h4; cases h4
     have hL : ∀ (x : den t) cs, Enc E.m t x cs → cs.length = size t := fun x cs p => Enc.len t p
     refine ⟨k, lo * size t, _, ha, (h5.drop hL lo).take hL len, ?_⟩
     have := h6.sub (o := lo * size t) (n := len * size t)
     simpa [cut] using this
  ·cases h
 | .struct fs, .agg as, x, cs, hc, h => by
  simp only [toDat] at h
  unfold CC at hc
  unfold Enc
  exact toDatL_spec hl fs as hc h
 | .arr n t, .arrL as, x, cs, hc, h => by
  simp only [toDat] at h
  split at h
  ·rename_i hn
   unfold CC at hc
   unfold Enc
   obtain ⟨h1, h2⟩ := toDatN_spec hl t as hc h
   exact ⟨by rw [h1, hn], h2⟩
  ·cases h
 | .int _, .agg _, _, _, _, h | .int _, .arrL _, _, _, _, h | .int _, .ptr _ _, _, _, _, h | .int _, .cptr _ _, _, _, _, h | .int _, .hp _ _ _, _, _, _, h | .int _, .full _ _, _, _, _, h | .int _, .hmp _ _ _, _, _, _, h | .int _, .hm _ _ _, _, _, _, h | .int _, .row _, _, _, _, h | .int _, .sub _ _ _, _, _, _, h | .int _, .nilsl, _, _, _, h | .int _, .nilp, _, _, _, h | .int _, .nilf, _, _, _, h | .int _, .nilm, _, _, _, h | .int _, .fn _ _ _, _, _, _, h | .int _, .yld _, _, _, _, h | .int _, .tup _, _, _, _, h | .int _, .any, _, _, _, h | .int _, .top, _, _, _, h => by simp [toDat] at h
 | .bool, a, x, cs, hc, h => by
  cases a <;> first | (simp [toDat] at h; done) | (rename_i u y; simp only [toDat] at h; unfold CC at hc; obtain ⟨rfl, rfl⟩ := castT_spec h; exact hc)
 | .str, a, x, cs, hc, h => by
  cases a <;> first | (simp [toDat] at h; done) | (rename_i u y; simp only [toDat] at h; unfold CC at hc; obtain ⟨rfl, rfl⟩ := castT_spec h; exact hc)
 | .struct _, .arrL _, _, _, _, h | .struct _, .ptr _ _, _, _, _, h | .struct _, .cptr _ _, _, _, _, h | .struct _, .hp _ _ _, _, _, _, h | .struct _, .full _ _, _, _, _, h | .struct _, .hmp _ _ _, _, _, _, h | .struct _, .hm _ _ _, _, _, _, h | .struct _, .row _, _, _, _, h | .struct _, .sub _ _ _, _, _, _, h | .struct _, .nilsl, _, _, _, h | .struct _, .nilp, _, _, _, h | .struct _, .nilf, _, _, _, h | .struct _, .nilm, _, _, _, h | .struct _, .fn _ _ _, _, _, _, h | .struct _, .yld _, _, _, _, h | .struct _, .tup _, _, _, _, h | .struct _, .any, _, _, _, h | .struct _, .top, _, _, _, h => by simp [toDat] at h
 | .arr _ _, .agg _, _, _, _, h | .arr _ _, .ptr _ _, _, _, _, h | .arr _ _, .cptr _ _, _, _, _, h | .arr _ _, .hp _ _ _, _, _, _, h | .arr _ _, .full _ _, _, _, _, h | .arr _ _, .hmp _ _ _, _, _, _, h | .arr _ _, .hm _ _ _, _, _, _, h | .arr _ _, .row _, _, _, _, h | .arr _ _, .sub _ _ _, _, _, _, h | .arr _ _, .nilsl, _, _, _, h | .arr _ _, .nilp, _, _, _, h | .arr _ _, .nilf, _, _, _, h | .arr _ _, .nilm, _, _, _, h | .arr _ _, .fn _ _ _, _, _, _, h | .arr _ _, .yld _, _, _, _, h | .arr _ _, .tup _, _, _, _, h | .arr _ _, .any, _, _, _, h | .arr _ _, .top, _, _, _, h => by simp [toDat] at h
 | .slice _, .agg _, _, _, _, h | .slice _, .arrL _, _, _, _, h | .slice _, .ptr _ _, _, _, _, h | .slice _, .cptr _ _, _, _, _, h | .slice _, .hp _ _ _, _, _, _, h | .slice _, .full _ _, _, _, _, h | .slice _, .hmp _ _ _, _, _, _, h | .slice _, .hm _ _ _, _, _, _, h | .slice _, .nilp, _, _, _, h | .slice _, .nilf, _, _, _, h | .slice _, .nilm, _, _, _, h | .slice _, .fn _ _ _, _, _, _, h | .slice _, .yld _, _, _, _, h | .slice _, .tup _, _, _, _, h | .slice _, .any, _, _, _, h | .slice _, .top, _, _, _, h => by simp [toDat] at h
 | .hnd _ _, .agg _, _, _, _, h | .hnd _ _, .arrL _, _, _, _, h | .hnd _ _, .ptr _ _, _, _, _, h | .hnd _ _, .cptr _ _, _, _, _, h | .hnd _ _, .full _ _, _, _, _, h | .hnd _ _, .hmp _ _ _, _, _, _, h | .hnd _ _, .hm _ _ _, _, _, _, h | .hnd _ _, .row _, _, _, _, h | .hnd _ _, .sub _ _ _, _, _, _, h | .hnd _ _, .nilsl, _, _, _, h | .hnd _ _, .nilf, _, _, _, h | .hnd _ _, .nilm, _, _, _, h | .hnd _ _, .fn _ _ _, _, _, _, h | .hnd _ _, .yld _, _, _, _, h | .hnd _ _, .tup _, _, _, _, h | .hnd _ _, .any, _, _, _, h | .hnd _ _, .top, _, _, _, h => by simp [toDat] at h
theorem toDatL_spec {E : Env} (hl : LentOK E) : (ts : List Ty) → (as : List AV) → ∀ {x : denL ts} {cs : List Value}, CCL E as cs → toDatL E.H ts as = some x → EncL E.m ts x cs
 | [], [], x, cs, hc, h => by unfold CCL at hc; unfold EncL; exact hc
 | t :: ts, a :: as, x, cs, hc, h => by
  simp only [toDatL] at h
  split at h
  ·rename_i x1 x2 h1 h2
   simp only [Option.some.injEq] at h
   subst h
   unfold CCL at hc
   obtain ⟨p, q, rfl, h3, h4⟩ := hc
   unfold EncL
   exact ⟨p, q, rfl, toDat_spec hl t a h3 h1, toDatL_spec hl ts as h4 h2⟩
  ·cases h
 | [], _ :: _, _, _, _, h | _ :: _, [], _, _, _, h => by simp [toDatL] at h
theorem toDatN_spec {E : Env} (hl : LentOK E) : (t : Ty) → (as : List AV) → ∀ {x : List (den t)} {cs : List Value}, CCL E as cs → toDatN E.H t as = some x → x.length = as.length ∧ Rows (Enc E.m t) x cs
 | t, [], x, cs, hc, h => by simp only [toDatN, Option.some.injEq] at h; subst h; unfold CCL at hc; exact ⟨rfl, hc⟩
 | t, a :: as, x, cs, hc, h => by
  simp only [toDatN] at h
  split at h
  ·rename_i x1 x2 h1 h2
   simp only [Option.some.injEq] at h
   subst h
   unfold CCL at hc
   obtain ⟨p, q, rfl, h3, h4⟩ := hc
   obtain ⟨h5, h6⟩ := toDatN_spec hl t as h4 h2
   exact ⟨by simp [h5], p, q, rfl, toDat_spec hl t a h3 h1, h6⟩
  ·cases h
end
end Go.Gh
