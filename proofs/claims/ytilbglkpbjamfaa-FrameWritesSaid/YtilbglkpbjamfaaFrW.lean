import Derived.Test.YtilbglkpbjamfaaFrV
namespace Go.Proofs.Ytilbglkpbjamfaa
open Go Go.Eng Go.Rw Go.Fr Go.Proofs
set_option linter.unusedVariables false
noncomputable def U5 : Tab := [(10, insideD), (11, insideD), (12, writeD), (13, writeD), (14, openE), (15, openE), (16, bareD), (17, bareD), (18, stuffS), (20, stuffS), (19, msgSameS)]
theorem U5_ok : TabOk Try.prog U5 := ⟨inside_up inside_ok, inside_up rinside_ok, write_up fwrite_ok, write_up rwrite_ok, open_up open_ok, open_up ropen_ok, bare_up bare_ok, bare_up rbare_ok, stuff_ok, rstuff_ok, rmsame_ok, trivial⟩
def writesLoops (b : List UInt8) : List Nat → Nat → Option LoopAnn := fun _ r => match r with
  | 16 => some { V := Int × Nat × Nat × Nat × List UInt8 × List UInt8 × List UInt8, st := fun v => ⟨mk 182 [(1, .sl 0 b), (5, .row 0 4001 0 b.length), (14, .ptr 9005 0), (18, .row 0 11001 0 v.2.2.1), (22, .row 0 13001 0 v.2.2.2.1), (23, .int .i64 v.1)], [], [(4001, .row 0 b), (9005, .cells [.dead, .dead, .row 0 9001 0 v.2.1]), (9001, .row 0 v.2.2.2.2.1), (11001, .row 0 v.2.2.2.2.2.1), (13001, .row 0 v.2.2.2.2.2.2)]⟩, I := fun v => (0 ≤ v.1 ∧ v.1 ≤ v.2.1) ∧ v.2.2.2.2.1.length = v.2.1 ∧ v.2.2.2.2.2.1.length = v.2.2.1 ∧ v.2.2.2.2.2.2.length = v.2.2.2.1, μ := fun v => (v.2.1 - v.1).toNat }
  | 20 => some { V := Int × Nat × Nat × List UInt8 × List UInt8, st := fun v => ⟨mk 182 [(1, .sl 0 b), (5, .row 0 4001 0 b.length), (18, .row 0 11001 0 v.2.1), (22, .row 0 13001 0 v.2.2.1), (24, .int .i64 v.1)], [], [(4001, .row 0 b), (11001, .row 0 v.2.2.2.1), (13001, .row 0 v.2.2.2.2)]⟩, I := fun v => (0 ≤ v.1 ∧ v.1 ≤ v.2.1) ∧ v.2.2.2.1.length = v.2.1 ∧ v.2.2.2.2.length = v.2.2.1, μ := fun v => (v.2.1 - v.1).toNat }
  | 24 => some { V := Int × Nat × List UInt8, st := fun v => ⟨mk 182 [(1, .sl 0 b), (5, .row 0 4001 0 b.length), (22, .row 0 13001 0 v.2.1), (25, .int .i64 v.1)], [], [(4001, .row 0 b), (13001, .row 0 v.2.2)]⟩, I := fun v => (0 ≤ v.1 ∧ v.1 ≤ v.2.1) ∧ v.2.2.length = v.2.1, μ := fun v => (v.2.1 - v.1).toNat }
  | _ => none
end Go.Proofs.Ytilbglkpbjamfaa

