/- The context for RowTwice: an append to a list that may be as long as memory lets it be. Conditions: none. -/
import Derived.Test.YtallblpnlefpeaaRoF
namespace Go.Proofs.Ytallblpnlefpeaa
open Go Go.Gh Go.Proofs
noncomputable def cxM : Ctx := { cx49 with big := fun n => Nat.beq n 160023 }
end Go.Proofs.Ytallblpnlefpeaa
/- What the ghost comes to: a law. Conditions: none (equations, each by computation). -/
namespace Go.Proofs.Ytallblpnlefpeaa
open Go Go.Gh Go.Proofs
def S16 : List Gh.Spec := [{ key := (0, 16, 4, 1), frs := [{ fn := 16, n := 119, regs := [(1, (.ptr 160001 [])), (3, (.ptr 160003 [])), (4, (.dat (.int .i64)))], round := none, defers := [] }], heap := [(160001, .box (.dat tBk) false), (160003, .box (.agg [(.row 160023), (.dat (.slice (.slice tWy)))]) false), (160023, .row (.struct [(.int .i64), .bool]) false)] }, { key := (0, 16, 12, 1), frs := [{ fn := 16, n := 119, regs := [(1, (.ptr 160001 [])), (3, (.ptr 160003 [])), (6, (.dat (.int .i64)))], round := none, defers := [] }], heap := [(160001, .box (.dat tBk) false), (160003, .box (.agg [(.row 160023), (.dat (.slice (.slice tWy)))]) false), (160023, .row (.struct [(.int .i64), .bool]) true)] }]
noncomputable def K16_0 : Kept := { todos := [[.inLoop (cAt Try.f16 [1, 1, 1, 0, 1, 0, 0]), .inBlock 0, .code (cAt Try.f16 [1, 1, 1, 1])]], cs := [noCodes, noCodes, noCodes] }
noncomputable def K16_1 : Kept := { todos := [[.inLoop (cAt Try.f16 [1, 1, 1, 1, 1, 0, 1, 0, 0]), .inBlock 2, .code (cAt Try.f16 [1, 1, 1, 1, 1, 1])]], cs := [noCodes, noCodes, noCodes] }
theorem E16 (G : (n : Nat) → Kept → denK (specAt S16 n) → Option (denL [.bool])) (t0 : Bk) : enter cxM S16 [.bool] 6000 some G 16 [tBk] (t0, ()) =
  bif decide (List.length (Prod.fst t0) ≤ 8796093022208) then G 0 K16_0 ((((), (), 0, ()), ()), t0, ((), Prod.fst (Prod.snd t0), ()), Prod.fst t0, ()) else none := by kernel_rfl
theorem Q16_0 (G : (n : Nat) → Kept → denK (specAt S16 n) → Option (denL [.bool])) (t4 : Int) (h0 : Bk) (h1_1 : (List (List Wy))) (h2 : (List Rw)) : seg cxM S16 [.bool] 6000 some G 0 K16_0 ((((), ((), (t4, ()))), ()), (h0, (((), (h1_1, ())), (h2, ())))) =
  bif decide (t4 < (↑(List.length h2) : Int)) then
 bif decide (0 ≤ t4) && decide (t4 < (↑(List.length h2) : Int)) then
  bif decide (Int.toNat t4 < List.length h2) then
   bif decide (0 ≤ t4) && decide (t4 < (↑(List.length h2) : Int)) then
    bif decide (Int.toNat t4 < List.length h2) then G 0 K16_0 ((((), (), IntKind.wrap IntKind.i64 (t4 + 1), ()), ()), h0, ((), h1_1, ()), List.set h2 (Int.toNat t4) (IntKind.wrap IntKind.i64 (2 * if 198 < Prod.fst (List.getD h2 (Int.toNat t4) (0, false, ())) then 198 else Prod.fst (List.getD h2 (Int.toNat t4) (0, false, ()))), Prod.snd (List.getD h2 (Int.toNat t4) (0, false, ()))), ())
    else none
   else none
  else none
 else none
 else Option.bind (F39 (h0, ())) fun (y : Bool × Unit) => bif !Prod.fst y then Option.bind (F24 ()) fun (y : Bool × Unit) => some (Prod.fst y, ()) else Option.bind (F39 ((h2, h1_1, ()), ())) fun (y : Bool × Unit) => bif !Prod.fst y then Option.bind (F24 ()) fun (y : Bool × Unit) => some (Prod.fst y, ()) else G 1 K16_1 ((((), (), 0, ()), ()), h0, ((), h1_1, ()), h2, ()) := by kernel_rfl
theorem Q16_1 (G : (n : Nat) → Kept → denK (specAt S16 n) → Option (denL [.bool])) (t6 : Int) (h0 : Bk) (h1_1 : (List (List Wy))) (h2 : (List Rw)) : seg cxM S16 [.bool] 6000 some G 1 K16_1 ((((), ((), (t6, ()))), ()), (h0, (((), (h1_1, ())), (h2, ())))) =
  bif decide (t6 < (↑(List.length (Prod.fst (Prod.snd h0))) : Int)) then
 Option.bind (F20 (h0, t6, ())) fun (y : Int × Int × Unit) => Option.bind (F20 ((h2, h1_1, ()), t6, ())) fun (y_1 : Int × Int × Unit) => bif Prod.fst y_1 != IntKind.wrap IntKind.i64 (2 * Prod.fst y) then some (false, ()) else bif Prod.fst (Prod.snd y) != Prod.fst (Prod.snd y_1) then some (false, ()) else G 1 K16_1 ((((), (), IntKind.wrap IntKind.i64 (t6 + 1), ()), ()), h0, ((), h1_1, ()), h2, ())
 else
 Option.bind (F22 (h0, ())) fun (y : Int × Int × Int × Int × Unit) =>
  Option.bind (F22 ((h2, h1_1, ()), ())) fun (y_1 : Int × Int × Int × Int × Unit) =>
   bif Prod.fst y == Prod.fst y_1 then
    bif Prod.fst (Prod.snd y) == Prod.fst (Prod.snd y_1) then bif Prod.fst (Prod.snd (Prod.snd y)) == Prod.fst (Prod.snd (Prod.snd y_1)) then bif Prod.fst (Prod.snd (Prod.snd (Prod.snd y))) == Prod.fst (Prod.snd (Prod.snd (Prod.snd y_1))) then Option.bind (F24 ()) fun (y : Bool × Unit) => some (Prod.fst y, ()) else some (false, ()) else some (false, ()) else some (false, ())
   else some (false, ()) := by kernel_rfl
noncomputable def F16 : denL [tBk] → Option (denL [.bool]) := ghost cxM S16 6000 16 [tBk] [.bool]
end Go.Proofs.Ytallblpnlefpeaa
