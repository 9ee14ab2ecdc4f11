/- What the ghost comes to: the examples. Conditions: none (equations, each by computation). -/
import Derived.Test.YtkhhbpocmmmnmaaTuH
namespace Go.Proofs.Ytkhhbpocmmmnmaa
open Go Go.Gh Go.Proofs
def S7 : List Gh.Spec := []
noncomputable def F7 : denL [] → Option (denL [.bool]) := ghost cx41 S7 6000 7 [] [.bool]
theorem N7  {y : denL [.bool]} (h : Ev fun _ =>
 (Option.bind (F37 ([], ())) fun (y : Su × Unit) => Option.bind (F38 (0, 3, ())) fun (y_1 : Tl × Unit) => Option.bind (F37 (List.set (List.replicate 1 (0, 0, false, ())) 0 y_1.1, ())) fun (y_2 : Su × Unit) => Option.bind (F38 (0, 3, ())) fun (y_3 : Tl × Unit) => Option.bind (F38 (1, 3, ())) fun (y_4 : Tl × Unit) => Option.bind (F37 (List.set (List.set (List.replicate 2 (0, 0, false, ())) 0 y_3.1) 1 y_4.1, ())) fun (y_5 : Su × Unit) => Option.bind (F21 (y.1, 1, ())) fun (y_6 : Sp × Int × Unit) => Option.bind (F23 (y_2.1, 1, 3, ())) fun (y_7 : Int × Int × Unit) => Option.bind (F26 (y_2.1, ())) fun (y_8 : Sp × Int × Unit) => Option.bind (F26 (y_5.1, ())) fun (y_9 : Sp × Int × Unit) => Option.bind (F31 (y_2.1, 0, 10, ())) fun (y_10 : Sp × Int × Unit) => Option.bind (F33 (y.1, 0, 10, ())) fun (y : Int × Int × Unit) => Option.bind (F33 (y_2.1, 0, 26, ())) fun (y_11 : Int × Int × Unit) => Option.bind (F35 (y_2.1, ())) fun (y_12 : List Int × Int × Unit) => bif y_6.2.1 == 0 then bif y_7.2.1 == 0 then bif y_8.2.1 == 0 then bif y_9.2.1 == 0 then bif y_10.2.1 == 0 then bif y.2.1 == 0 then bif y_11.2.1 == 0 then bif y_12.2.1 == 0 then Option.bind (F39 (12, 13, ())) fun (y_13 : Sp × Unit) => bif eqD (Ty.struct [Ty.int IntKind.i64, Ty.int IntKind.i64]) y_6.1 y_13.1 then bif y_7.1 == 0 then Option.bind (F39 (2, 3, ())) fun (y_14 : Sp × Unit) => bif eqD (Ty.struct [Ty.int IntKind.i64, Ty.int IntKind.i64]) y_8.1 y_14.1 then Option.bind (F39 (2, 2, ())) fun (y_15 : Sp × Unit) => bif eqD (Ty.struct [Ty.int IntKind.i64, Ty.int IntKind.i64]) y_9.1 y_15.1 then Option.bind (F39 (100, 100, ())) fun (y_16 : Sp × Unit) => bif eqD (Ty.struct [Ty.int IntKind.i64, Ty.int IntKind.i64]) y_10.1 y_16.1 then bif y.1 == 0 then bif y_11.1 == 2 then bif (↑(List.length y_12.1) : Int) == 0 then Option.bind (F25 ()) fun (y : Bool × Unit) => some (y.1, ()) else some (false, ()) else some (false, ()) else some (false, ()) else some (false, ()) else some (false, ()) else some (false, ()) else some (false, ()) else some (false, ()) else some (false, ()) else some (false, ()) else some (false, ()) else some (false, ()) else some (false, ()) else some (false, ()) else some (false, ()) else some (false, ()) : Option (denL [.bool])) = some y) : F7 () = some y := ghost_eq (Ev.eq (fun _ => by kernel_rfl) h)
end Go.Proofs.Ytkhhbpocmmmnmaa
/- Law 7: the examples. Conditions: none. -/
namespace Go.Proofs.Ytkhhbpocmmmnmaa
open Go Go.Gh Go.Proofs
theorem L7 : F7 () = some (true, ()) := by
 refine N7 ?_
 simp only [L37, L38, Option.bind_some]
 rw [show List.set (List.replicate 1 ((0, 0, false, ()) : Tl)) 0 (0, 3, true, ()) = tA from rfl, show List.set (List.set (List.replicate 2 ((0, 0, false, ()) : Tl)) 0 (0, 3, true, ())) 1 (1, 3, true, ()) = tB from rfl]
 simp only [L21, L23, L26, L31, L33, L35, L25, b1, b2, b3, b4, b5, b6, b7, b8, L39, Option.bind_some]
 simp only [spSelf, eSelf, cond_true]
 exact Ev.all fun _ => by first | rfl | trivial
end Go.Proofs.Ytkhhbpocmmmnmaa
