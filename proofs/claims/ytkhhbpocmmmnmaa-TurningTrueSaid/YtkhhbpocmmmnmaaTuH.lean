/- What the ghost comes to: helpers of the outright statements. Conditions: none (equations, each by computation). -/
import Derived.Test.YtkhhbpocmmmnmaaTuG
import Derived.Test.YtkhhbpocmmmnmaaTuK
namespace Go.Proofs.Ytkhhbpocmmmnmaa
open Go Go.Gh Go.Proofs
def S40 : List Gh.Spec := []
noncomputable def F40 : denL [tSu] → Option (denL [.bool]) := ghost cx6 S40 6000 40 [tSu] [.bool]
noncomputable def C40 : Con := ⟨[tSu], [.bool], F40⟩
noncomputable def cx40 : Ctx := cx6.add 40 C40
def S47 : List Gh.Spec := []
noncomputable def F47 : denL [tSu] → Option (denL [.bool]) := ghost cx40 S47 6000 47 [tSu] [.bool]
noncomputable def C47 : Con := ⟨[tSu], [.bool], F47⟩
noncomputable def cx47 : Ctx := cx40.add 47 C47
def S51 : List Gh.Spec := []
noncomputable def F51 : denL [tSu] → Option (denL [tSu]) := ghost cx47 S51 6000 51 [tSu] [tSu]
noncomputable def C51 : Con := ⟨[tSu], [tSu], F51⟩
noncomputable def cx51 : Ctx := cx47.add 51 C51
def S42 : List Gh.Spec := []
noncomputable def F42 : denL [(.int .i64), tSp] → Option (denL [.bool]) := ghost cx51 S42 6000 42 [(.int .i64), tSp] [.bool]
noncomputable def C42 : Con := ⟨[(.int .i64), tSp], [.bool], F42⟩
noncomputable def cx42 : Ctx := cx51.add 42 C42
def S45 : List Gh.Spec := []
noncomputable def F45 : denL [(.int .i64), .bool] → Option (denL [.bool]) := ghost cx42 S45 6000 45 [(.int .i64), .bool] [.bool]
noncomputable def C45 : Con := ⟨[(.int .i64), .bool], [.bool], F45⟩
noncomputable def cx45 : Ctx := cx42.add 45 C45
def S50 : List Gh.Spec := [{ key := (0, 50, 1, 1), frs := [{ fn := 50, n := 14, regs := [(0, (.dat (.int .i64))), (1, (.dat (.int .i64)))], round := none, defers := [] }], heap := [] }]
noncomputable def K50_0 : Kept := { todos := [[.inLoop (cAt Try.f50 [1, 0, 0, 0]), .inBlock 0, .code (cAt Try.f50 [1, 1])]], cs := [] }
noncomputable def F50 : denL [(.int .i64), (.int .i64)] → Option (denL [.bool]) := ghost cx45 S50 6000 50 [(.int .i64), (.int .i64)] [.bool]
noncomputable def C50 : Con := ⟨[(.int .i64), (.int .i64)], [.bool], F50⟩
noncomputable def cx50 : Ctx := cx45.add 50 C50
def S52 : List Gh.Spec := [{ key := (0, 52, 2, 1), frs := [{ fn := 52, n := 36, regs := [(0, (.dat (.slice (.int .i64)))), (1, (.dat (.int .i64))), (5, (.dat (.int .i64)))], round := none, defers := [] }], heap := [] }]
noncomputable def K52_0 : Kept := { todos := [[.inLoop (cAt Try.f52 [1, 0, 1, 0, 0]), .inBlock 0, .code (cAt Try.f52 [1, 1])]], cs := [] }
noncomputable def F52 : denL [(.slice (.int .i64)), (.int .i64)] → Option (denL [.bool]) := ghost cx50 S52 6000 52 [(.slice (.int .i64)), (.int .i64)] [.bool]
noncomputable def C52 : Con := ⟨[(.slice (.int .i64)), (.int .i64)], [.bool], F52⟩
noncomputable def cx52 : Ctx := cx50.add 52 C52
def S53 : List Gh.Spec := []
noncomputable def F53 : denL [(.slice (.int .i64)), (.slice (.int .i64))] → Option (denL [.bool]) := ghost cx52 S53 6000 53 [(.slice (.int .i64)), (.slice (.int .i64))] [.bool]
noncomputable def C53 : Con := ⟨[(.slice (.int .i64)), (.slice (.int .i64))], [.bool], F53⟩
noncomputable def cx53 : Ctx := cx52.add 53 C53
def S54 : List Gh.Spec := []
noncomputable def F54 : denL [tSp, tSp] → Option (denL [.bool]) := ghost cx53 S54 6000 54 [tSp, tSp] [.bool]
noncomputable def C54 : Con := ⟨[tSp, tSp], [.bool], F54⟩
noncomputable def cx54 : Ctx := cx53.add 54 C54
def S56 : List Gh.Spec := []
noncomputable def F56 : denL [(.int .i64), (.int .i64), (.int .i64)] → Option (denL [.bool]) := ghost cx54 S56 6000 56 [(.int .i64), (.int .i64), (.int .i64)] [.bool]
noncomputable def C56 : Con := ⟨[(.int .i64), (.int .i64), (.int .i64)], [.bool], F56⟩
noncomputable def cx56 : Ctx := cx54.add 56 C56
def S41 : List Gh.Spec := [{ key := (0, 41, 7, 1), frs := [{ fn := 41, n := 65, regs := [(2, (.ptr 410002 [])), (4, (.ptr 410004 [])), (5, (.ptr 410005 [])), (8, (.ptr 410008 [])), (9, (.dat (.int .i64)))], round := none, defers := [] }], heap := [(410002, .box (.agg [(.dat (.slice tSp)), (.dat (.int .i64)), (.dat (.slice tSn)), (.row 410030)]) false), (410004, .box (.dat tSu) false), (410005, .box (.dat (.struct [(.slice (.int .i64)), (.slice (.int .i64))])) false), (410008, .box (.dat (.struct [(.slice (.int .i64)), (.slice (.int .i64))])) false), (410030, .row tTl false)] }]
noncomputable def K41_0 : Kept := { todos := [[.inLoop (cAt Try.f41 [1, 1, 1, 1, 1, 0, 1, 0, 0]), .inBlock 0, .code (cAt Try.f41 [1, 1, 1, 1, 1, 1])]], cs := [noCodes, noCodes, noCodes, noCodes, noCodes] }
noncomputable def F41 : denL [tSu, (.int .u16)] → Option (denL [tSu, (.struct [(.slice (.int .i64)), (.slice (.int .i64))]), .bool]) := ghost cx56 S41 6000 41 [tSu, (.int .u16)] [tSu, (.struct [(.slice (.int .i64)), (.slice (.int .i64))]), .bool]
noncomputable def C41 : Con := ⟨[tSu, (.int .u16)], [tSu, (.struct [(.slice (.int .i64)), (.slice (.int .i64))]), .bool], F41⟩
noncomputable def cx41 : Ctx := cx56.add 41 C41
noncomputable abbrev T50_0 (t0 : Int) (t1 : Int) (f : Nat) : Option (denL [.bool]) := iter cx45 S50 [.bool] 6000 f 0 K50_0 (((t0, (t1, ())), ()), ())
noncomputable abbrev T52_0 (t0 : (List Int)) (t1 : Int) (t5 : Int) (f : Nat) : Option (denL [.bool]) := iter cx50 S52 [.bool] 6000 f 0 K52_0 (((t0, (t1, (t5, ()))), ()), ())
noncomputable abbrev T41_0 (t9 : Int) (h0_0 : (List Sp)) (h0_1 : Int) (h0_2 : (List Sn)) (h1 : Su) (h2 : ((List Int) × (List Int) × Unit)) (h3 : ((List Int) × (List Int) × Unit)) (h4 : (List Tl)) (f : Nat) : Option (denL [tSu, (.struct [(.slice (.int .i64)), (.slice (.int .i64))]), .bool]) := iter cx56 S41 [tSu, (.struct [(.slice (.int .i64)), (.slice (.int .i64))]), .bool] 6000 f 0 K41_0 ((((), ((), ((), ((), (t9, ()))))), ()), ((h0_0, (h0_1, (h0_2, ((), ())))), (h1, (h2, (h3, (h4, ()))))))
theorem N40 (t0 : Su) {y : denL [.bool]} (h : Ev fun _ =>
 (Option.bind (F20 (t0, ())) fun (y : Int × Int × Int × Unit) => some (y.2.2.1 == 0, ()) : Option (denL [.bool])) = some y) : F40 (t0, ()) = some y := ghost_eq (Ev.eq (fun _ => by kernel_rfl) h)
theorem N47 (t0 : Su) {y : denL [.bool]} (h : Ev fun _ =>
 (Option.bind (F40 (t0, ())) fun (y : Bool × Unit) => bif y.1 then Option.bind (F48 (t0, [], ())) fun (y : List (List Int × List Int × Unit) × Unit) => some (decide ((↑(List.length y.1) : Int) > 0), ()) else some (false, ()) : Option (denL [.bool])) = some y) : F47 (t0, ()) = some y := ghost_eq (Ev.eq (fun _ => by kernel_rfl) h)
theorem N51 (t0 : Su) {y : denL [tSu]} (h : Ev fun _ =>
 (some ((t0.1, t0.2.1, t0.2.2.1, [], ()), ()) : Option (denL [tSu])) = some y) : F51 (t0, ()) = some y := ghost_eq (Ev.eq (fun _ => by kernel_rfl) h)
theorem N42 (t0 : Int) (t1 : Sp) {y : denL [.bool]} (h : Ev fun _ =>
 (Option.bind (F55 (t0, t1.1, t1.2.1, ())) fun (y : Bool × Unit) => some (y.1, ()) : Option (denL [.bool])) = some y) : F42 (t0, (t1, ())) = some y := ghost_eq (Ev.eq (fun _ => by kernel_rfl) h)
theorem N45 (t0 : Int) (t1 : Bool) {y : denL [.bool]} (h : Ev fun _ =>
 (bif t0 == 1 then bif !t1 then some (true, ()) else bif t0 == 2 then some (t1, ()) else some (false, ()) else bif t0 == 2 then some (t1, ()) else some (false, ()) : Option (denL [.bool])) = some y) : F45 (t0, (t1, ())) = some y := ghost_eq (Ev.eq (fun _ => by kernel_rfl) h)
theorem R50_0 (t0 : Int) (t1 : Int) {y : denL [.bool]} (h : Ev fun k =>
 (bif decide (t1 > 0) then T50_0 (IntKind.wrap IntKind.i64 (Int.tdiv t0 2)) (IntKind.wrap IntKind.i64 (t1 - 1)) k else some (Int.tmod t0 2 == 1, ()) : Option (denL [.bool])) = some y) : Ev fun k => T50_0 t0 t1 k = some y := iter_ev (Ev.eq (fun _ => by kernel_rfl) h)
theorem N50 (t0 : Int) (t1 : Int) {y : denL [.bool]} (h : Ev fun k =>
 (T50_0 t0 t1 k : Option (denL [.bool])) = some y) : F50 (t0, (t1, ())) = some y := ghost_eq (Ev.eq (fun _ => by kernel_rfl) h)
theorem R52_0 (t0 : (List Int)) (t1 : Int) (t5 : Int) {y : denL [.bool]} (h : Ev fun k =>
 (bif decide (t5 < (↑(List.length t0) : Int)) then bif decide (0 ≤ t5) && decide (t5 < (↑(List.length t0) : Int)) then Option.bind (F55 (List.getD t0 (Int.toNat t5) 0, 0, IntKind.wrap IntKind.i64 (t1 - 1), ())) fun (y : Bool × Unit) => bif !y.1 then some (false, ()) else bif decide (t5 > 0) then bif decide (0 ≤ t5) && decide (t5 < (↑(List.length t0) : Int)) then bif decide (0 ≤ IntKind.wrap IntKind.i64 (t5 - 1)) && decide (IntKind.wrap IntKind.i64 (t5 - 1) < (↑(List.length t0) : Int)) then bif decide (List.getD t0 (Int.toNat t5) 0 ≤ List.getD t0 (Int.toNat (IntKind.wrap IntKind.i64 (t5 - 1))) 0) then some (false, ()) else T52_0 t0 t1 (IntKind.wrap IntKind.i64 (t5 + 1)) k else none else none else T52_0 t0 t1 (IntKind.wrap IntKind.i64 (t5 + 1)) k else none else some (true, ()) : Option (denL [.bool])) = some y) : Ev fun k => T52_0 t0 t1 t5 k = some y := iter_ev (Ev.eq (fun _ => by kernel_rfl) h)
theorem N52 (t0 : (List Int)) (t1 : Int) {y : denL [.bool]} (h : Ev fun k =>
 (T52_0 t0 t1 0 k : Option (denL [.bool])) = some y) : F52 (t0, (t1, ())) = some y := ghost_eq (Ev.eq (fun _ => by kernel_rfl) h)
theorem N53 (t0 : (List Int)) (t1 : (List Int)) {y : denL [.bool]} (h : Ev fun _ =>
 (bif decide ((↑(List.length t0) : Int) < (↑(List.length t1) : Int)) then some (true, ()) else bif (↑(List.length t0) : Int) == (↑(List.length t1) : Int) then Option.bind (F114 (t0, t1, ())) fun (y : Bool × Unit) => some (y.1, ()) else some (false, ()) : Option (denL [.bool])) = some y) : F53 (t0, (t1, ())) = some y := ghost_eq (Ev.eq (fun _ => by kernel_rfl) h)
theorem R41_0 (t9 : Int) (h0_0 : (List Sp)) (h0_1 : Int) (h0_2 : (List Sn)) (h1 : Su) (h2 : ((List Int) × (List Int) × Unit)) (h3 : ((List Int) × (List Int) × Unit)) (h4 : (List Tl)) {y : denL [tSu, (.struct [(.slice (.int .i64)), (.slice (.int .i64))]), .bool]} (h : Ev fun k =>
 (bif decide (t9 < (↑(List.length h4) : Int)) then bif decide (0 ≤ t9) && decide (t9 < (↑(List.length h4) : Int)) then bif decide (Int.toNat t9 < List.length h4) then bif decide (0 ≤ Prod.fst (List.getD h4 (Int.toNat t9) (0, 0, false, ()))) && decide (Prod.fst (List.getD h4 (Int.toNat t9) (0, 0, false, ())) < (↑(List.length h3.2.1) : Int)) then bif decide (0 ≤ Prod.fst (Prod.snd (List.getD h4 (Int.toNat t9) (0, 0, false, ())))) && decide (Prod.fst (Prod.snd (List.getD h4 (Int.toNat t9) (0, 0, false, ()))) < (↑(List.length h3.2.1) : Int)) then bif decide (0 ≤ t9) && decide (t9 < (↑(List.length h4) : Int)) then bif decide (Int.toNat t9 < List.length h4) then T41_0 (IntKind.wrap IntKind.i64 (t9 + 1)) h0_0 h0_1 h0_2 h1 h2 h3 (List.set h4 (Int.toNat t9) (Prod.fst (List.getD h4 (Int.toNat t9) (0, 0, false, ())), Prod.fst (Prod.snd (List.getD h4 (Int.toNat t9) (0, 0, false, ()))), List.getD h3.2.1 (Int.toNat (Prod.fst (List.getD h4 (Int.toNat t9) (0, 0, false, ())))) 0 == List.getD h3.2.1 (Int.toNat (Prod.fst (Prod.snd (List.getD h4 (Int.toNat t9) (0, 0, false, ()))))) 0, ())) k else none else none else none else none else none else none else some ((h0_0, h0_1, h0_2, h4, ()), h3, true, ()) : Option (denL [tSu, (.struct [(.slice (.int .i64)), (.slice (.int .i64))]), .bool])) = some y) : Ev fun k => T41_0 t9 h0_0 h0_1 h0_2 h1 h2 h3 h4 k = some y := iter_ev (Ev.eq (fun _ => by kernel_rfl) h)
theorem N41 (t0 : Su) (t1 : Int) {y : denL [tSu, (.struct [(.slice (.int .i64)), (.slice (.int .i64))]), .bool]} (h : Ev fun k =>
 (Option.bind (F51 (t0, ())) fun (y : Su × Unit) => Option.bind (F48 (y.1, [], ())) fun (y : List (List Int × List Int × Unit) × Unit) => bif (↑(List.length y.1) : Int) == 0 then some (t0, ([], [], ()), false, ()) else bif decide ((↑(List.length y.1) : Int) = 0) then none else bif decide (0 ≤ Int.tmod (IntKind.wrap IntKind.i64 t1) (↑(List.length y.1) : Int)) && decide (Int.tmod (IntKind.wrap IntKind.i64 t1) (↑(List.length y.1) : Int) < (↑(List.length y.1) : Int)) then bif decide (List.length t0.2.2.2.1 ≤ 2147483648) then T41_0 0 t0.1 t0.2.1 t0.2.2.1 ([], 0, [], [], ()) ([], [], ()) (List.getD y.1 (Int.toNat (Int.tmod (IntKind.wrap IntKind.i64 t1) (↑(List.length y.1) : Int))) ([], [], ())) t0.2.2.2.1 k else none else none : Option (denL [tSu, (.struct [(.slice (.int .i64)), (.slice (.int .i64))]), .bool])) = some y) : F41 (t0, (t1, ())) = some y := ghost_eq (Ev.eq (fun _ => by kernel_rfl) h)
end Go.Proofs.Ytkhhbpocmmmnmaa
/- The contexts, one function after another, are the program's. Conditions: none. -/
namespace Go.Proofs.Ytkhhbpocmmmnmaa
open Go Go.Gh Go.Proofs
theorem ok40 : CtxOK' cx40 := CtxOK'.add ok6 (f := 40) (c := C40) (ghost_ok ok6 S40 6000 40 _ _) (fn_is (List.mem_range.2 (by decide)) (by kernel_rfl))
theorem ok47 : CtxOK' cx47 := CtxOK'.add ok40 (f := 47) (c := C47) (ghost_ok ok40 S47 6000 47 _ _) (fn_is (List.mem_range.2 (by decide)) (by kernel_rfl))
theorem ok51 : CtxOK' cx51 := CtxOK'.add ok47 (f := 51) (c := C51) (ghost_ok ok47 S51 6000 51 _ _) (fn_is (List.mem_range.2 (by decide)) (by kernel_rfl))
theorem ok42 : CtxOK' cx42 := CtxOK'.add ok51 (f := 42) (c := C42) (ghost_ok ok51 S42 6000 42 _ _) (fn_is (List.mem_range.2 (by decide)) (by kernel_rfl))
theorem ok45 : CtxOK' cx45 := CtxOK'.add ok42 (f := 45) (c := C45) (ghost_ok ok42 S45 6000 45 _ _) (fn_is (List.mem_range.2 (by decide)) (by kernel_rfl))
theorem ok50 : CtxOK' cx50 := CtxOK'.add ok45 (f := 50) (c := C50) (ghost_ok ok45 S50 6000 50 _ _) (fn_is (List.mem_range.2 (by decide)) (by kernel_rfl))
theorem ok52 : CtxOK' cx52 := CtxOK'.add ok50 (f := 52) (c := C52) (ghost_ok ok50 S52 6000 52 _ _) (fn_is (List.mem_range.2 (by decide)) (by kernel_rfl))
theorem ok53 : CtxOK' cx53 := CtxOK'.add ok52 (f := 53) (c := C53) (ghost_ok ok52 S53 6000 53 _ _) (fn_is (List.mem_range.2 (by decide)) (by kernel_rfl))
theorem ok54 : CtxOK' cx54 := CtxOK'.add ok53 (f := 54) (c := C54) (ghost_ok ok53 S54 6000 54 _ _) (fn_is (List.mem_range.2 (by decide)) (by kernel_rfl))
theorem ok56 : CtxOK' cx56 := CtxOK'.add ok54 (f := 56) (c := C56) (ghost_ok ok54 S56 6000 56 _ _) (fn_is (List.mem_range.2 (by decide)) (by kernel_rfl))
theorem ok41 : CtxOK' cx41 := CtxOK'.add ok56 (f := 41) (c := C41) (ghost_ok ok56 S41 6000 41 _ _) (fn_is (List.mem_range.2 (by decide)) (by kernel_rfl))
end Go.Proofs.Ytkhhbpocmmmnmaa
/- What the outright statements use; law 7. Conditions: as each lemma states. -/
namespace Go.Proofs.Ytkhhbpocmmmnmaa
open Go Go.Gh Go.Proofs
def validP (s : Su) : Bool := (chkP s).2.2.1 == 0
theorem validP_t {s : Su} : validP s = true ↔ VS s := by
 unfold validP
 rw [beq_iff_eq, chkP_ok]
theorem validP_f {s : Su} (h : validP s = false) : (chkP s).2.2.1 ≠ 0 := by
 unfold validP at h
 simpa using h
theorem L40 (s : Su) : F40 ((s, ()) : Su × Unit) = some (validP s, ()) := by
 refine N40 _ ?_
 rw [L20]
 exact Ev.all fun _ => rfl
def someP (s : Su) : Bool := validP s && decide (trP s ≠ [])
theorem someP_t {s : Su} : someP s = true ↔ VS s ∧ trP s ≠ [] := by
 unfold someP
 rw [Bool.and_eq_true, validP_t, decide_eq_true_eq]
theorem L47 (s : Su) : F47 ((s, ()) : Su × Unit) = some (someP s, ()) := by
 refine N47 _ ?_
 rw [L40]
 simp only [Option.bind_some]
 unfold someP
 cases hv : validP s with
 | false => exact Ev.all fun _ => by first | rfl | trivial
 | true =>
  have hs := validP_t.1 hv
  rw [L48 hs [] (by simp)]
  simp only [cond_true, Option.bind_some, Bool.true_and]
  have e : decide (((refT s (inL [])).length : Int) > 0) = decide (trP s ≠ []) := by
   rw [Bool.eq_iff_iff, decide_eq_true_eq, decide_eq_true_eq]
   have h1 := refL_nil hs
   have h2 := List.length_pos_iff (l := refL s)
   rw [show refT s (inL []) = refL s from rfl, ne_eq, ← h1, ← ne_eq, ← h2]
   omega
  rw [e]
  exact Ev.all fun _ => by first | rfl | trivial
def plainP (s : Su) : Su := (s.1, s.2.1, s.2.2.1, [], ())
theorem L51 (s : Su) : F51 ((s, ()) : Su × Unit) = some (plainP s, ()) := N51 _ (Ev.all fun _ => rfl)
theorem L42 (n : Int) (x : Sp) : F42 ((n, x, ()) : Int × Sp × Unit) = some (!notIn x.1 x.2.1 n, ()) := by
 refine N42 _ _ ?_
 rw [L55]
 exact Ev.all fun _ => rfl
def deniesP (how : Int) (is : Bool) : Bool := (how == 1 && !is) || (how == 2 && is)
theorem L45 (how : Int) (is : Bool) : F45 ((how, is, ()) : Int × Bool × Unit) = some (deniesP how is, ()) := by
 refine N45 _ _ ?_
 unfold deniesP
 cases h1 : (how == 1) with
 | true =>
  have h2 : (how == 2) = false := bqf (by have := eq_of_beq h1; omega)
  rw [h2]
  cases is with
  | true => exact Ev.all fun _ => rfl
  | false => exact Ev.all fun _ => rfl
 | false =>
  cases how == 2 with
  | true => cases is <;> exact Ev.all fun _ => rfl
  | false => cases is <;> exact Ev.all fun _ => rfl
theorem L50 (n i : Nat) (hn : n < 1000) (hi : i < 1000) : F50 (((n : Int), (i : Int), ()) : Int × Int × Unit) = some (n.testBit i, ()) := by
 refine N50 _ _ ?_
 have key : ∀ (c m : Nat), m < 1000 → c ≤ i → m.testBit c = n.testBit i → Ev fun k => T50_0 m c k = some (n.testBit i, ()) := by
  intro c
  induction c with
  | zero =>
   intro m hm _ h
   refine R50_0 _ _ ?_
   rw [dec_f (show ¬ ((0 : Nat) : Int) > 0 by omega), ← h, Nat.testBit_zero, show Int.tmod (m : Int) 2 = ((m % 2 : Nat) : Int) by rw [Int.tmod_eq_emod_of_nonneg (by omega)]; simp]
   have e : ((((m % 2 : Nat) : Int)) == 1) = decide (m % 2 = 1) := by
    rw [Bool.eq_iff_iff, beq_iff_eq, decide_eq_true_eq]; omega
   rw [e]
   exact Ev.all fun _ => rfl
  | succ c ih =>
   intro m hm hc h
   refine R50_0 _ _ ?_
   rw [dec_t (show ((c + 1 : Nat) : Int) > 0 by omega), wrap_pred (n := c + 1) (by omega) (by omega), Nat.add_sub_cancel, show Int.tdiv (m : Int) 2 = ((m / 2 : Nat) : Int) by rw [Int.tdiv_eq_ediv_of_nonneg (by omega)]; simp, wrap_id (by omega) (by omega)]
   exact ih (m / 2) (by omega) (by omega) (by rw [← h, Nat.testBit_succ])
 exact key i n hn (Nat.le_refl _) rfl
def risingP (l : List Int) (b : Int) : Bool := (List.range l.length).all fun i => !outP b (l.getD i 0) && (i == 0 || decide (l.getD (i - 1) 0 < l.getD i 0))
theorem L52 (l : List Int) (b : Nat) (hl : l.length < 1000000) (hb : b < 1000000) : F52 ((l, (b : Int), ()) : List Int × Int × Unit) = some (risingP l b, ()) := by
 refine N52 _ _ ?_
 have key : ∀ (c i : Nat), i + c = l.length → Ev fun k => T52_0 l b i k = some ((List.range' i c).all (fun i => !outP b (l.getD i 0) && (i == 0 || decide (l.getD (i - 1) 0 < l.getD i 0))), ()) := by
  intro c
  induction c with
  | zero =>
   intro i hi
   refine R52_0 _ _ _ ?_
   rw [dec_f (by omega)]
   exact Ev.all fun _ => rfl
  | succ c ih =>
   intro i hi
   have ih := ih (i + 1) (by omega)
   refine R52_0 _ _ _ ?_
   rw [dec_t (show (i : Int) < (l.length : Int) by omega), dec_t (show (0 : Int) ≤ (i : Int) by omega), Int.toNat_natCast, wrap_below (n := b) (by omega), wrap_succ (n := i) (by omega), L55, ← outP_eq, List.range'_succ, List.all_cons]
   simp only [Bool.and_self, cond_true, Option.bind_some, Bool.not_not]
   cases outP b (l.getD i 0) with
   | true => exact Ev.all fun _ => by first | rfl | trivial
   | false =>
    by_cases h0 : i = 0
    ·subst h0
     rw [dec_f (show ¬ ((0 : Nat) : Int) > 0 by omega)]
     exact ih
    ·have e0 : (i == 0) = false := by simpa using h0
     rw [dec_t (show (i : Int) > 0 by omega), wrap_pred (n := i) (by omega) (by omega), dec_t (show (0 : Int) ≤ ((i - 1 : Nat) : Int) by omega), dec_t (show ((i - 1 : Nat) : Int) < (l.length : Int) by omega), Int.toNat_natCast, e0]
     simp only [Bool.and_self, cond_true, cond_false, Bool.not_false, Bool.true_and, Bool.false_or]
     by_cases h1 : l.getD i 0 ≤ l.getD (i - 1) 0
     ·rw [dec_t h1, dec_f (show ¬ l.getD (i - 1) 0 < l.getD i 0 by omega)]
      exact Ev.all fun _ => by first | rfl | trivial
     ·rw [dec_f h1, dec_t (show l.getD (i - 1) 0 < l.getD i 0 by omega), Bool.true_and]
      exact ih
 have := key l.length 0 (by omega)
 rw [← List.range_eq_range'] at this
 exact this
def fewerP (a b : List Int) : Bool := decide (a.length < b.length) || (a.length == b.length && decide (Few.cmpL a b < 0))
theorem L53 (a b : List Int) (ha : a.length < 1000000) : F53 ((a, b, ()) : List Int × List Int × Unit) = some (fewerP a b, ()) := by
 refine N53 _ _ ?_
 rw [L114 _ _ ha, ltc, eqc]
 unfold fewerP
 cases decide (a.length < b.length) with
 | true => exact Ev.all fun _ => rfl
 | false =>
  cases a.length == b.length with
  | true => exact Ev.all fun _ => rfl
  | false => exact Ev.all fun _ => rfl
def toldP (g : List Int) (y : Tl) : Tl := (y.1, y.2.1, g.getD y.1.toNat 0 == g.getD y.2.1.toNat 0, ())
def withP (s : Su) (g : List Int) : Su := (s.1, s.2.1, s.2.2.1, s.2.2.2.1.map (toldP g), ())
theorem plain_vs {s : Su} (hs : VS s) : VS (plainP s) := ⟨hs.b1, hs.b3, hs.belts, hs.off, hs.n5, hs.seen, by simp [plainP], fun i hi => absurd hi (by simp [plainP])⟩
theorem L41 {s : Su} (hs : VS s) (x : Nat) (hx : x < 100000) : F41 ((s, (x : Int), ()) : Su × Int × Unit) = some (if refL (plainP s) = [] then (s, ([], [], ()), false, ()) else (withP s ((refL (plainP s)).getD (x % (refL (plainP s)).length) tr0).2.1, (refL (plainP s)).getD (x % (refL (plainP s)).length) tr0, true, ())) := by
 have hp := plain_vs hs
 have h3 := hs.t3
 refine N41 _ _ ?_
 rw [L51]
 simp only [Option.bind_some]
 rw [L48 hp [] (by simp), show refT (plainP s) (inL []) = refL (plainP s) from rfl]
 simp only [Option.bind_some]
 by_cases hr : refL (plainP s) = []
 ·rw [if_pos hr, hr]
  exact Ev.all fun _ => rfl
 ·have hpos := List.length_pos_iff.2 hr
  have cap := refL_cap hp
  have hlt : x % (refL (plainP s)).length < (refL (plainP s)).length := Nat.mod_lt _ hpos
  rw [if_neg hr, bqf (show ((refL (plainP s)).length : Int) ≠ 0 by omega), dec_f (show ¬ ((refL (plainP s)).length : Int) = 0 by omega), wrap_id (x := (x : Int)) (by omega) (by omega), show Int.tmod (x : Int) ((refL (plainP s)).length : Int) = ((x % (refL (plainP s)).length : Nat) : Int) by rw [Int.tmod_eq_emod_of_nonneg (by omega)]; simp, dec_t (show (0 : Int) ≤ ((x % (refL (plainP s)).length : Nat) : Int) by omega), dec_t (show ((x % (refL (plainP s)).length : Nat) : Int) < ((refL (plainP s)).length : Int) by omega), Int.toNat_natCast, show (refL (plainP s)).getD (x % (refL (plainP s)).length) ([], [], ()) = (refL (plainP s)).getD (x % (refL (plainP s)).length) tr0 from rfl, dec_t (show s.2.2.2.1.length ≤ 2147483648 by omega)]
  simp only [Bool.and_self, cond_true, cond_false]
  have ok : TrOK (plainP s) ((refL (plainP s)).getD (x % (refL (plainP s)).length) tr0) := by
   rw [getD_lt hlt]
   exact refL_ok hp hlt
  generalize (refL (plainP s)).getD (x % (refL (plainP s)).length) tr0 = t at ok ⊢
  have hgl : t.2.1.length = s.2.2.1.length := ok.gl
  have key : ∀ (c i : Nat), i + c = s.2.2.2.1.length → Ev fun k => T41_0 i s.1 s.2.1 s.2.2.1 ([], 0, [], [], ()) ([], [], ()) t ((s.2.2.2.1.take i).map (toldP t.2.1) ++ s.2.2.2.1.drop i) k = some (withP s t.2.1, t, true, ()) := by
   intro c
   induction c with
   | zero =>
    intro i hi
    refine R41_0 _ _ _ _ _ _ _ _ ?_
    rw [List.take_of_length_le (by omega), List.drop_eq_nil_of_le (by omega), List.append_nil, List.length_map, dec_f (by omega)]
    exact Ev.all fun _ => rfl
   | succ c ih =>
    intro i hi
    have ih := ih (i + 1) (by omega)
    have hil : i < s.2.2.2.1.length := by omega
    have hy := hs.told i hil
    have hlen : ((s.2.2.2.1.take i).map (toldP t.2.1) ++ s.2.2.2.1.drop i).length = s.2.2.2.1.length := by
     rw [List.length_append, List.length_map, List.length_take, List.length_drop]; omega
    have hg : ((s.2.2.2.1.take i).map (toldP t.2.1) ++ s.2.2.2.1.drop i).getD i (0, 0, false, ()) = s.2.2.2.1.getD i tl0 := by
     rw [List.getD_eq_getElem?_getD, List.getElem?_append_right (by rw [List.length_map, List.length_take]; omega), List.getElem?_drop, List.length_map, List.length_take, show i + (i - min i s.2.2.2.1.length) = i by omega]
     exact (List.getD_eq_getElem?_getD ..).symm
    have hset : ((s.2.2.2.1.take i).map (toldP t.2.1) ++ s.2.2.2.1.drop i).set i (toldP t.2.1 (s.2.2.2.1.getD i tl0)) = (s.2.2.2.1.take (i + 1)).map (toldP t.2.1) ++ s.2.2.2.1.drop (i + 1) := by
     rw [List.set_append_right _ _ (by rw [List.length_map, List.length_take]; omega), List.length_map, List.length_take, show i - min i s.2.2.2.1.length = 0 by omega, List.drop_eq_getElem_cons hil, List.set_cons_zero, List.take_add_one, List.getElem?_eq_getElem hil, List.map_append, List.append_assoc, getD_lt hil]
     rfl
    refine R41_0 _ _ _ _ _ _ _ _ ?_
    rw [hlen, Int.toNat_natCast, hg, dec_t (show (i : Int) < (s.2.2.2.1.length : Int) by omega), dec_t (show (0 : Int) ≤ (i : Int) by omega), dec_t hil, dec_t hy.1.1, dec_t (show (s.2.2.2.1.getD i tl0).1 < (t.2.1.length : Int) by rw [hgl]; exact hy.1.2), dec_t hy.2.1.1, dec_t (show (s.2.2.2.1.getD i tl0).2.1 < (t.2.1.length : Int) by rw [hgl]; exact hy.2.1.2), wrap_succ (n := i) (by omega)]
    simp only [Bool.and_self, cond_true]
    rw [← hset] at ih
    exact ih
  exact key s.2.2.2.1.length 0 (by omega)
theorem b1 : rateP (sunP []) 1 = ((12, 13, ()), 0, ()) := by kernel_rfl
theorem b2 : sameP (sunP tA) 1 3 = (0, 0, ()) := by kernel_rfl
theorem b3 : groupsP (sunP tA) = ((2, 3, ()), 0, ()) := by kernel_rfl
theorem b4 : groupsP (sunP tB) = ((2, 2, ()), 0, ()) := by kernel_rfl
theorem b5 : whereP (sunP tA) 0 10 = ((100, 100, ()), 0, ()) := by kernel_rfl
end Go.Proofs.Ytkhhbpocmmmnmaa
