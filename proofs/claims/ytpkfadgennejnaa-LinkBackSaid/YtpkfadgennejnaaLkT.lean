import Derived.Test.YtpkfadgennejnaaLkS
namespace Go.Proofs.Ytpkfadgennejnaa
open Go Go.Eng Go.Rw Go.Lk Go.Proofs
set_option linter.unusedVariables false
abbrev Four := Option (Int × Int × Int × List Int)
def ofE (x : Four) : Int := if x.isSome = true then 0 else 8
def of1 (x : Four) : Int := (x.getD (0, 0, 0, [])).1
def of2 (x : Four) : Int := (x.getD (0, 0, 0, [])).2.1
def of3 (x : Four) : Int := (x.getD (0, 0, 0, [])).2.2.1
def of4 (x : Four) : List Int := (x.getD (0, 0, 0, [])).2.2.2
noncomputable def ofcS : Eng.Spec := { ro := true, own := [], run := fun args _ k => match args with
  | [.sl 0 b] => b.length ≤ 1000000 ∧ (ansC b = none → k (.tup [.agg [.int .i64 0, .int .i64 0, .int .i64 0, .nilsl], .int .i64 8]) [] []) ∧ (∀ (s c o : Int) (l : List Int) (n : Nat), ansC b = some (s, c, o, l) → l.length = n → n ≤ 8 → k (.tup [.agg [.int .i64 s, .int .i64 c, .int .i64 o, .row 1 0 0 n], .int .i64 0]) [] [.row 1 l])
  | _ => False }
noncomputable def ofcD : Eng.Spec := { ro := true, own := [], run := fun args _ k => match args with
  | [.sl 0 b] => b.length ≤ 1000000 ∧ ∀ (e s c o : Int) (l : List Int) (n : Nat), e = ofE (ansC b) → s = of1 (ansC b) → c = of2 (ansC b) → o = of3 (ansC b) → l = of4 (ansC b) → l.length = n → n ≤ 8 → k (.tup [.agg [.int .i64 s, .int .i64 c, .int .i64 o, .row 1 0 0 n], .int .i64 e]) [] [.row 1 l]
  | _ => False }
theorem ofc_up {f : FuncId} (hf : Holds Try.prog f ofcS) : Holds Try.prog f ofcD := hf.nlAgg 1 0 3 rfl rfl rfl fun args k h => by
  unfold ofcD at h
  dsimp only at h
  split at h
  · refine ⟨h.1, fun he => ?_, fun s c o l n he hn h8 => ?_⟩
    · rw [he] at h
      exact h.2 8 0 0 0 [] 0 rfl rfl rfl rfl rfl rfl (by decide)
    · rw [he] at h
      exact h.2 0 s c o l n rfl rfl rfl rfl rfl hn h8
  · exact h.elim
noncomputable def ofrS : Eng.Spec := { ro := true, own := [], run := fun args _ k => match args with
  | [.sl 0 b] => b.length ≤ 1000000 ∧ (ansR b = none → k (.tup [.agg [.int .i64 0, .int .u8 0, .int .i64 0, .nilsl], .int .i64 8]) [] []) ∧ (∀ (s c o : Int) (l : List Int) (n : Nat), ansR b = some (s, c, o, l) → l.length = n → n ≤ 8 → k (.tup [.agg [.int .i64 s, .int .u8 c, .int .i64 o, .row 1 0 0 n], .int .i64 0]) [] [.row 1 l])
  | _ => False }
noncomputable def ofrD : Eng.Spec := { ro := true, own := [], run := fun args _ k => match args with
  | [.sl 0 b] => b.length ≤ 1000000 ∧ ∀ (e s c o : Int) (l : List Int) (n : Nat), e = ofE (ansR b) → s = of1 (ansR b) → c = of2 (ansR b) → o = of3 (ansR b) → l = of4 (ansR b) → l.length = n → n ≤ 8 → k (.tup [.agg [.int .i64 s, .int .u8 c, .int .i64 o, .row 1 0 0 n], .int .i64 e]) [] [.row 1 l]
  | _ => False }
theorem ofr_up {f : FuncId} (hf : Holds Try.prog f ofrS) : Holds Try.prog f ofrD := hf.nlAgg 1 0 3 rfl rfl rfl fun args k h => by
  unfold ofrD at h
  dsimp only at h
  split at h
  · refine ⟨h.1, fun he => ?_, fun s c o l n he hn h8 => ?_⟩
    · rw [he] at h
      exact h.2 8 0 0 0 [] 0 rfl rfl rfl rfl rfl rfl (by decide)
    · rw [he] at h
      exact h.2 0 s c o l n rfl rfl rfl rfl rfl hn h8
  · exact h.elim
noncomputable def M4 : Tab := [(40, oneS), (42, oneS), (21, commandD), (22, commandD), (23, reportD), (24, reportD), (41, equalS)]
theorem M4_ok : TabOk Try.prog M4 := ⟨one_ok, rone_ok, command_up command_ok, command_up rcommand_ok, report_up report_ok, report_up rreport_ok, equal_ok, trivial⟩
def ofcLoops (b : List UInt8) : List Nat → Nat → Option LoopAnn := fun _ r => match r with
  | 5 => some { V := Nat × List UInt8 × Bool × Nat × List Int, st := fun v => ⟨mk 54 [(0, .sl 0 b), (2, .ptr 1000 0), (4, .ptr 2002 0), (5, .fn (.func 40) [.ptr 2002 0] []), (6, .ptr 4007 0), (22, .int .i64 (nmb 65535 1048576 1048576 b)), (23, .int .i64 v.1)], [], [(1000, .cells [.int .i64 0, .int .i64 0, .int .i64 0, .nilsl]), (2002, .cells [.sl 0 v.2.1, .bool v.2.2.1]), (4007, .cells [.int .i64 (oneV 65535 b), .int .i64 (oneV 1048576 (oneR 65535 b)), .int .i64 (oneV 1048576 (oneR 1048576 (oneR 65535 b))), .row 1 7777 0 v.2.2.2.1]), (7777, .row 1 v.2.2.2.2)]⟩, I := fun v => (v.1 ≤ nmb 65535 1048576 1048576 b ∧ nmb 65535 1048576 1048576 b ≤ 8) ∧ b.length ≤ 1000000 ∧ v.2.1.length ≤ b.length ∧ v.2.2.2.2.length = v.2.2.2.1 ∧ v.2.2.2.1 = v.1 ∧ CIn 65535 1048576 1048576 1048576 b v.1 v.2.2.1 v.2.1 v.2.2.2.2, μ := fun v => (nmb 65535 1048576 1048576 b - v.1).toNat, boxes := [(1000603, 7777, 1)] }
  | _ => none
def ofrLoops (b : List UInt8) : List Nat → Nat → Option LoopAnn := fun _ r => match r with
  | 5 => some { V := Nat × List UInt8 × Bool × Nat × List Int, st := fun v => ⟨mk 55 [(0, .sl 0 b), (2, .ptr 1000 0), (4, .ptr 2002 0), (5, .fn (.func 40) [.ptr 2002 0] []), (6, .ptr 4008 0), (23, .int .i64 (nmb 65535 3 1073741824 b)), (24, .int .i64 v.1)], [], [(1000, .cells [.int .i64 0, .int .u8 0, .int .i64 0, .nilsl]), (2002, .cells [.sl 0 v.2.1, .bool v.2.2.1]), (4008, .cells [.int .i64 (oneV 65535 b), .int .u8 (oneV 3 (oneR 65535 b)), .int .i64 (oneV 1073741824 (oneR 3 (oneR 65535 b))), .row 1 7777 0 v.2.2.2.1]), (7777, .row 1 v.2.2.2.2)]⟩, I := fun v => (v.1 ≤ nmb 65535 3 1073741824 b ∧ nmb 65535 3 1073741824 b ≤ 8) ∧ b.length ≤ 1000000 ∧ v.2.1.length ≤ b.length ∧ v.2.2.2.2.length = v.2.2.2.1 ∧ v.2.2.2.1 = v.1 ∧ CIn 65535 3 1073741824 70368744177664 b v.1 v.2.2.1 v.2.1 v.2.2.2.2, μ := fun v => (nmb 65535 3 1073741824 b - v.1).toNat, boxes := [(1000603, 7777, 1)] }
  | _ => none
def rofcLoops (b : List UInt8) : List Nat → Nat → Option LoopAnn := fun _ r => match r with
  | 7 => some { V := Nat × List UInt8 × Bool × Nat × List Int, st := fun v => ⟨mk 64 [(0, .sl 0 b), (2, .ptr 1000 0), (4, .ptr 2002 0), (5, .ptr 3003 0), (6, .int .i64 (nmb 65535 1048576 1048576 b)), (7, .int .i64 v.1)], [], [(1000, .cells [.int .i64 0, .int .i64 0, .int .i64 0, .nilsl]), (2002, .cells [.sl 0 v.2.1, .bool v.2.2.1]), (3003, .cells [.int .i64 (oneV 65535 b), .int .i64 (oneV 1048576 (oneR 65535 b)), .int .i64 (oneV 1048576 (oneR 1048576 (oneR 65535 b))), .row 1 7777 0 v.2.2.2.1]), (7777, .row 1 v.2.2.2.2)]⟩, I := fun v => (v.1 ≤ nmb 65535 1048576 1048576 b ∧ nmb 65535 1048576 1048576 b ≤ 8) ∧ b.length ≤ 1000000 ∧ v.2.1.length ≤ b.length ∧ v.2.2.2.2.length = v.2.2.2.1 ∧ v.2.2.2.1 = v.1 ∧ CIn 65535 1048576 1048576 1048576 b v.1 v.2.2.1 v.2.1 v.2.2.2.2, μ := fun v => (nmb 65535 1048576 1048576 b - v.1).toNat, boxes := [(1000503, 7777, 1)] }
  | _ => none
def rofrLoops (b : List UInt8) : List Nat → Nat → Option LoopAnn := fun _ r => match r with
  | 7 => some { V := Nat × List UInt8 × Bool × Nat × List Int, st := fun v => ⟨mk 65 [(0, .sl 0 b), (2, .ptr 1000 0), (4, .ptr 2002 0), (5, .ptr 3003 0), (6, .int .i64 (nmb 65535 3 1073741824 b)), (7, .int .i64 v.1)], [], [(1000, .cells [.int .i64 0, .int .u8 0, .int .i64 0, .nilsl]), (2002, .cells [.sl 0 v.2.1, .bool v.2.2.1]), (3003, .cells [.int .i64 (oneV 65535 b), .int .u8 (oneV 3 (oneR 65535 b)), .int .i64 (oneV 1073741824 (oneR 3 (oneR 65535 b))), .row 1 7777 0 v.2.2.2.1]), (7777, .row 1 v.2.2.2.2)]⟩, I := fun v => (v.1 ≤ nmb 65535 3 1073741824 b ∧ nmb 65535 3 1073741824 b ≤ 8) ∧ b.length ≤ 1000000 ∧ v.2.1.length ≤ b.length ∧ v.2.2.2.2.length = v.2.2.2.1 ∧ v.2.2.2.1 = v.1 ∧ CIn 65535 3 1073741824 70368744177664 b v.1 v.2.2.1 v.2.1 v.2.2.2.2, μ := fun v => (nmb 65535 3 1073741824 b - v.1).toNat, boxes := [(1000503, 7777, 1)] }
  | _ => none
end Go.Proofs.Ytpkfadgennejnaa

