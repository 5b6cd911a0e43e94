import Derived.Test.YtilbglkpbjamfaaFrO
namespace Go.Proofs.Ytilbglkpbjamfaa
open Go Go.Eng Go.Rw Go.Fr Go.Proofs
set_option linter.unusedVariables false
def feedN : Eng.Spec := { ro := false, own := [false, true], lend := fun j => Nat.beq j 0, run := fun args B k => match args, B with
  | [.nilptr, .nilsl], [] => k (.tup [.nilsl, .int .i64 1]) [] []
  | _, _ => False }
def feedP : Eng.Spec := { ro := false, own := [false, true], lend := fun j => Nat.beq j 0, run := fun args B k => match args, B with
  | [.ptr 0 0, .nilsl], [.cells [.nilsl, .bool bg, .bool lg, .bool false]] => k (.tup [.nilsl, .int .i64 1]) [some (.cells [.nilsl, .bool bg, .bool lg, .bool false])] []
  | _, _ => False }
def feedX : Eng.Spec := { ro := false, own := [false, true], lend := fun j => Nat.beq j 0, run := fun args B k => match args, B with
  | [.nilptr, .nilsl], [] => k (.tup [.nilsl, .int .i64 1]) [] []
  | [.ptr 0 0, .nilsl], [.cells [.nilsl, .bool bg, .bool lg, .bool false]] => k (.tup [.nilsl, .int .i64 1]) [some (.cells [.nilsl, .bool bg, .bool lg, .bool false])] []
  | _, _ => False }
def badL : List (List UInt8) := [[125], [126], [125, 1], [125, 125, 93]]
theorem bad_none : ∀ i : Fin 4, bare (badL.getD i.val (dflt 6)) = none ∧ (badL.getD i.val (dflt 6) : List UInt8).length ≤ 1000000 := by decide +kernel
theorem bad_at {i : Int} (h0 : 0 ≤ i) (h1 : i < 4) : bare (badL.getD i.toNat (dflt 6)) = none := (bad_none ⟨i.toNat, by omega⟩).1
theorem bad_len {i : Int} (h0 : 0 ≤ i) (h1 : i < 4) : (badL.getD i.toNat (dflt 6) : List UInt8).length ≤ 1000000 := (bad_none ⟨i.toNat, by omega⟩).2
def namesLoops : List Nat → Nat → Option LoopAnn := fun _ r => match r with
  | 4 => some { V := Int × Nat × Int × List UInt8, st := fun v => ⟨mk 234 [(1, .row 0 2001 0 v.2.1), (2, .int .i64 v.2.2.1), (3, .row 6 3004 0 4), (4, .int .i64 v.1)], [], [(2001, .row 0 v.2.2.2), (3004, .row 6 badL)]⟩, I := fun v => (0 ≤ v.1 ∧ v.1 ≤ 4) ∧ v.2.1 = 1 ∧ v.2.2.1 = 0 ∧ v.2.2.2 = [125], μ := fun v => (4 - v.1).toNat }
  | _ => none
end Go.Proofs.Ytilbglkpbjamfaa

