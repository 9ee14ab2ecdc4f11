/- What the ghost comes to: laws 3 to 6, Awake. Conditions: none (equations, each by computation). -/
import Derived.Test.YtkhhbpocmmmnmaaTuF
namespace Go.Proofs.Ytkhhbpocmmmnmaa
open Go Go.Gh Go.Proofs
def S39 : List Gh.Spec := []
noncomputable def F39 : denL [(.int .i64), (.int .i64)] → Option (denL [tSp]) := ghost cx36 S39 6000 39 [(.int .i64), (.int .i64)] [tSp]
noncomputable def C39 : Con := ⟨[(.int .i64), (.int .i64)], [tSp], F39⟩
noncomputable def cx39 : Ctx := cx36.add 39 C39
def S38 : List Gh.Spec := []
noncomputable def F38 : denL [(.int .i64), (.int .i64)] → Option (denL [tTl]) := ghost cx39 S38 6000 38 [(.int .i64), (.int .i64)] [tTl]
noncomputable def C38 : Con := ⟨[(.int .i64), (.int .i64)], [tTl], F38⟩
noncomputable def cx38 : Ctx := cx39.add 38 C38
def S94 : List Gh.Spec := []
noncomputable def F94 : denL [(.int .i64), (.int .i64)] → Option (denL [tTl]) := ghost cx38 S94 6000 94 [(.int .i64), (.int .i64)] [tTl]
noncomputable def C94 : Con := ⟨[(.int .i64), (.int .i64)], [tTl], F94⟩
noncomputable def cx94 : Ctx := cx38.add 94 C94
def S37 : List Gh.Spec := []
noncomputable def F37 : denL [(.slice tTl)] → Option (denL [tSu]) := ghost cx94 S37 6000 37 [(.slice tTl)] [tSu]
noncomputable def C37 : Con := ⟨[(.slice tTl)], [tSu], F37⟩
noncomputable def cx37 : Ctx := cx94.add 37 C37
def S25 : List Gh.Spec := []
noncomputable def F25 : denL [] → Option (denL [.bool]) := ghost cx37 S25 6000 25 [] [.bool]
noncomputable def C25 : Con := ⟨[], [.bool], F25⟩
noncomputable def cx25 : Ctx := cx37.add 25 C25
def S3 : List Gh.Spec := []
abbrev GT3 : Type := (n : Nat) → Kept → denK (specAt S3 n) → Option (denL [.bool])
theorem E3 (G : GT3) (t0 : Su) (t1 : (List Int)) : enter cx25 S3 [.bool] 6000 some G 3 [tSu, (.arr 3 (.int .i64))] (t0, (t1, ())) =
  Option.bind (F19 (t0, ())) fun (y : Int × Int × Int × Unit) =>
 Option.bind (F20 (t0, ())) fun (y_1 : Int × Int × Int × Unit) =>
  bif Prod.fst y != Prod.fst y_1 then some (false, ())
  else
   bif Prod.fst (Prod.snd y) != Prod.fst (Prod.snd y_1) then some (false, ())
   else
    bif Prod.fst (Prod.snd (Prod.snd y)) != Prod.fst (Prod.snd (Prod.snd y_1)) then some (false, ())
    else
     Option.bind (F21 (t0, List.getD t1 0 0, ())) fun (y : Sp × Int × Unit) =>
      Option.bind (F22 (t0, List.getD t1 0 0, ())) fun (y_2 : Sp × Int × Unit) =>
       bif !eqD (Ty.struct [Ty.int IntKind.i64, Ty.int IntKind.i64]) (Prod.fst y) (Prod.fst y_2) then some (false, ())
       else
        bif Prod.fst (Prod.snd y) != Prod.fst (Prod.snd y_2) then some (false, ())
        else
         Option.bind (F23 (t0, List.getD t1 1 0, List.getD t1 2 0, ())) fun (y : Int × Int × Unit) =>
          Option.bind (F24 (t0, List.getD t1 1 0, List.getD t1 2 0, ())) fun (y_3 : Int × Int × Unit) => bif Prod.fst y == Prod.fst y_3 then bif Prod.fst (Prod.snd y) == Prod.fst (Prod.snd y_3) then Option.bind (F25 ()) fun (y : Bool × Unit) => some (Prod.fst y, ()) else some (false, ()) else some (false, ()) := by kernel_rfl
noncomputable def F3 : denL [tSu, (.arr 3 (.int .i64))] → Option (denL [.bool]) := ghost cx25 S3 6000 3 [tSu, (.arr 3 (.int .i64))] [.bool]
noncomputable def C3 : Con := ⟨[tSu, (.arr 3 (.int .i64))], [.bool], F3⟩
noncomputable def cx3 : Ctx := cx25.add 3 C3
def S4 : List Gh.Spec := []
noncomputable def F4 : denL [tSu] → Option (denL [.bool]) := ghost cx3 S4 6000 4 [tSu] [.bool]
noncomputable def C4 : Con := ⟨[tSu], [.bool], F4⟩
noncomputable def cx4 : Ctx := cx3.add 4 C4
def S5 : List Gh.Spec := []
noncomputable def F5 : denL [tSu, (.arr 2 (.int .i64))] → Option (denL [.bool]) := ghost cx4 S5 6000 5 [tSu, (.arr 2 (.int .i64))] [.bool]
noncomputable def C5 : Con := ⟨[tSu, (.arr 2 (.int .i64))], [.bool], F5⟩
noncomputable def cx5 : Ctx := cx4.add 5 C5
def S6 : List Gh.Spec := []
noncomputable def F6 : denL [tSu] → Option (denL [.bool]) := ghost cx5 S6 6000 6 [tSu] [.bool]
noncomputable def C6 : Con := ⟨[tSu], [.bool], F6⟩
noncomputable def cx6 : Ctx := cx5.add 6 C6
theorem N39 (t0 : Int) (t1 : Int) {y : denL [tSp]} (h : Ev fun _ =>
 (some ((t0, t1, ()), ()) : Option (denL [tSp])) = some y) : F39 (t0, (t1, ())) = some y := ghost_eq (Ev.eq (fun _ => by kernel_rfl) h)
theorem N38 (t0 : Int) (t1 : Int) {y : denL [tTl]} (h : Ev fun _ =>
 (some ((t0, t1, true, ()), ()) : Option (denL [tTl])) = some y) : F38 (t0, (t1, ())) = some y := ghost_eq (Ev.eq (fun _ => by kernel_rfl) h)
theorem N94 (t0 : Int) (t1 : Int) {y : denL [tTl]} (h : Ev fun _ =>
 (some ((t0, t1, false, ()), ()) : Option (denL [tTl])) = some y) : F94 (t0, (t1, ())) = some y := ghost_eq (Ev.eq (fun _ => by kernel_rfl) h)
theorem N37 (t0 : (List Tl)) {y : denL [tSu]} (h : Ev fun _ =>
 (Option.bind (F39 (13, 14, ())) fun (y : Sp × Unit) => Option.bind (F39 (12, 13, ())) fun (y_1 : Sp × Unit) => some ((List.set (List.set (List.replicate 2 (0, 0, ())) 0 y.1) 1 y_1.1, 2, (0, 0, -40, ()) :: (3, 0, 1, ()) :: (3, 0, 30, ()) :: (26, 0, -36, ()) :: List.replicate 0 (0, 0, 0, ()), t0, ()), ()) : Option (denL [tSu])) = some y) : F37 (t0, ()) = some y := ghost_eq (Ev.eq (fun _ => by kernel_rfl) h)
theorem N25  {y : denL [.bool]} (h : Ev fun _ =>
 (Option.bind (F37 ([], ())) fun (y : Su × Unit) => Option.bind (F38 (0, 3, ())) fun (y_1 : Tl × Unit) => Option.bind (F37 (List.set (List.replicate 1 (0, 0, false, ())) 0 y_1.1, ())) fun (y_2 : Su × Unit) => Option.bind (F38 (0, 3, ())) fun (y_3 : Tl × Unit) => Option.bind (F38 (1, 3, ())) fun (y_4 : Tl × Unit) => Option.bind (F37 (List.set (List.set (List.replicate 2 (0, 0, false, ())) 0 y_3.1) 1 y_4.1, ())) fun (y_5 : Su × Unit) => Option.bind (F38 (0, 3, ())) fun (y_6 : Tl × Unit) => Option.bind (F94 (0, 3, ())) fun (y_7 : Tl × Unit) => Option.bind (F37 (List.set (List.set (List.replicate 2 (0, 0, false, ())) 0 y_6.1) 1 y_7.1, ())) fun (y_8 : Su × Unit) => Option.bind (F21 (y.1, 0, ())) fun (y_9 : Sp × Int × Unit) => Option.bind (F21 (y_2.1, 0, ())) fun (y_10 : Sp × Int × Unit) => Option.bind (F23 (y.1, 0, 1, ())) fun (y_11 : Int × Int × Unit) => Option.bind (F23 (y.1, 0, 2, ())) fun (y_12 : Int × Int × Unit) => Option.bind (F23 (y_5.1, 0, 1, ())) fun (y_13 : Int × Int × Unit) => Option.bind (F26 (y.1, ())) fun (y_14 : Sp × Int × Unit) => Option.bind (F28 (y.1, ())) fun (y_15 : List Int × Int × Unit) => Option.bind (F31 (y.1, 0, 10, ())) fun (y_16 : Sp × Int × Unit) => Option.bind (F33 (y_2.1, 0, 10, ())) fun (y_17 : Int × Int × Unit) => Option.bind (F35 (y_8.1, ())) fun (y_18 : List Int × Int × Unit) => Option.bind (F26 (y_8.1, ())) fun (y_19 : Sp × Int × Unit) => Option.bind (F23 (y.1, 1, 1, ())) fun (y : Int × Int × Unit) => bif y_9.2.1 == 0 then bif y_10.2.1 == 0 then bif y_11.2.1 == 0 then bif y_12.2.1 == 0 then bif y_13.2.1 == 0 then bif y_14.2.1 == 0 then bif y_15.2.1 == 0 then bif y_16.2.1 == 0 then bif y_17.2.1 == 0 then bif y_18.2.1 == 0 then bif y_19.2.1 == 8 then bif y.2.1 == 2 then Option.bind (F39 (13, 14, ())) fun (y : Sp × Unit) => bif eqD (Ty.struct [Ty.int IntKind.i64, Ty.int IntKind.i64]) y_9.1 y.1 then Option.bind (F39 (14, 14, ())) fun (y : Sp × Unit) => bif eqD (Ty.struct [Ty.int IntKind.i64, Ty.int IntKind.i64]) y_10.1 y.1 then bif y_11.1 == 0 then bif y_12.1 == 2 then bif y_13.1 == 1 then Option.bind (F39 (2, 4, ())) fun (y : Sp × Unit) => bif eqD (Ty.struct [Ty.int IntKind.i64, Ty.int IntKind.i64]) y_14.1 y.1 then Option.bind (F30 (y_15.1, 0 :: 0 :: 2 :: 0 :: List.replicate 0 0, ())) fun (y : Bool × Unit) => bif y.1 then Option.bind (F39 (90, 100, ())) fun (y : Sp × Unit) => bif eqD (Ty.struct [Ty.int IntKind.i64, Ty.int IntKind.i64]) y_16.1 y.1 then bif y_17.1 == 1 then Option.bind (F30 (y_18.1, 0 :: List.replicate 0 0, ())) fun (y : Bool × Unit) => some (y.1, ()) else some (false, ()) else some (false, ()) else some (false, ()) else some (false, ()) else some (false, ()) else some (false, ()) else some (false, ()) else some (false, ()) else some (false, ()) else some (false, ()) else some (false, ()) else some (false, ()) else some (false, ()) else some (false, ()) else some (false, ()) else some (false, ()) else some (false, ()) else some (false, ()) else some (false, ()) else some (false, ()) else some (false, ()) : Option (denL [.bool])) = some y) : F25 () = some y := ghost_eq (Ev.eq (fun _ => by kernel_rfl) h)
end Go.Proofs.Ytkhhbpocmmmnmaa
/- The examples; laws 3 to 6. Conditions: as each lemma states. -/
namespace Go.Proofs.Ytkhhbpocmmmnmaa
open Go Go.Gh Go.Proofs
theorem L39 (a b : Int) : F39 ((a, b, ()) : Int × Int × Unit) = some ((a, b, ()), ()) := N39 _ _ (Ev.all fun _ => rfl)
theorem L38 (a b : Int) : F38 ((a, b, ()) : Int × Int × Unit) = some ((a, b, true, ()), ()) := N38 _ _ (Ev.all fun _ => rfl)
theorem L94 (a b : Int) : F94 ((a, b, ()) : Int × Int × Unit) = some ((a, b, false, ()), ()) := N94 _ _ (Ev.all fun _ => rfl)
def sunP (told : List Tl) : Su := ([(13, 14, ()), (12, 13, ())], 2, [(0, 0, -40, ()), (3, 0, 1, ()), (3, 0, 30, ()), (26, 0, -36, ())], told, ())
theorem L37 (told : List Tl) : F37 ((told, ()) : List Tl × Unit) = some (sunP told, ()) := by
 refine N37 _ ?_
 simp only [L39, Option.bind_some]
 exact Ev.all fun _ => rfl
abbrev tA : List Tl := [(0, 3, true, ())]
abbrev tB : List Tl := [(0, 3, true, ()), (1, 3, true, ())]
abbrev tC : List Tl := [(0, 3, true, ()), (0, 3, false, ())]
theorem a1 : rateP (sunP []) 0 = ((13, 14, ()), 0, ()) := by kernel_rfl
theorem a2 : rateP (sunP tA) 0 = ((14, 14, ()), 0, ()) := by kernel_rfl
theorem a3 : sameP (sunP []) 0 1 = (0, 0, ()) := by kernel_rfl
theorem a4 : sameP (sunP []) 0 2 = (2, 0, ()) := by kernel_rfl
theorem a5 : sameP (sunP tB) 0 1 = (1, 0, ()) := by kernel_rfl
theorem a6 : groupsP (sunP []) = ((2, 4, ()), 0, ()) := by kernel_rfl
theorem a7 : fewestP (sunP []) = ([0, 0, 2, 0], 0, ()) := by kernel_rfl
theorem a8 : whereP (sunP []) 0 10 = ((90, 100, ()), 0, ()) := by kernel_rfl
theorem a9 : hiddenP (sunP tA) 0 10 = (1, 0, ()) := by kernel_rfl
theorem a10 : wrongP (sunP tC) = ([0], 0, ()) := by kernel_rfl
theorem a11 : groupsP (sunP tC) = ((0, 0, ()), 8, ()) := by kernel_rfl
theorem a12 : sameP (sunP []) 1 1 = (0, 2, ()) := by kernel_rfl
theorem spSelf (a : Sp) : eqD (Ty.struct [Ty.int IntKind.i64, Ty.int IntKind.i64]) a a = true := (eqSp a a).trans (dec_t rfl)
theorem eSelf (a : Int) : (a == a) = true := bq rfl
theorem L25 : F25 () = some (true, ()) := by
 refine N25 ?_
 simp only [L37, L38, L94, Option.bind_some]
 rw [show List.set (List.replicate 1 ((0, 0, false, ()) : Tl)) 0 (0, 3, true, ()) = tA from rfl, show List.set (List.set (List.replicate 2 ((0, 0, false, ()) : Tl)) 0 (0, 3, true, ())) 1 (1, 3, true, ()) = tB from rfl, show List.set (List.set (List.replicate 2 ((0, 0, false, ()) : Tl)) 0 (0, 3, true, ())) 1 (0, 3, false, ()) = tC from rfl]
 simp only [L21, L23, L26, L28, L31, L33, L35, a1, a2, a3, a4, a5, a6, a7, a8, a9, a10, a11, a12, L39, Option.bind_some]
 rw [L30 _ _ (by decide), L30 _ _ (by decide)]
 rw [dec_t (show [0, 0, 2, 0] = (0 : Int) :: 0 :: 2 :: 0 :: List.replicate 0 0 from rfl), dec_t (show [0] = (0 : Int) :: List.replicate 0 0 from rfl)]
 simp only [spSelf, eSelf, cond_true, Option.bind_some]
 exact Ev.all fun _ => by first | rfl | trivial
end Go.Proofs.Ytkhhbpocmmmnmaa
