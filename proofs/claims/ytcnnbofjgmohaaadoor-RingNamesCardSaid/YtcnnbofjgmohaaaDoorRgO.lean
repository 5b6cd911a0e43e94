import Derived.Test.YtcnnbofjgmohaaaDoorTz
import Derived.Test.YtcnnbofjgmohaaaDoorRgQ
namespace Go.Proofs.YtcnnbofjgmohaaaDoor
open Go Go.Eng Go.Rg Go.Fx Go.Proofs
set_option linter.unusedVariables false
noncomputable def mkEnv (T : Tab) : Env := mkE Tryd.prog tyC T
def T0 : Tab := []
theorem T0_ok : TabOk Tryd.prog T0 := trivial
def bitS : Eng.Spec := { ro := true, own := [], run := fun args _ k => match args with
  | [.int .i64 i] => inK .i64 i ∧ ∀ r : Int, r = bitV i → (0 ≤ r ∧ r ≤ 2147483648) → k (.int .u32 r) [] []
  | _ => False }
def hasS : Eng.Spec := { ro := true, own := [], run := fun args _ k => match args with
  | [.int .u32 s, .int .i64 i] => inK .u32 s ∧ inK .i64 i ∧ k (.bool (hasB s i)) [] []
  | _ => False }
def withS : Eng.Spec := { ro := true, own := [], run := fun args _ k => match args with
  | [.int .u32 s, .int .i64 i] => inK .u32 s ∧ inK .i64 i ∧ ∀ r : Int, r = withV s i → (0 ≤ r ∧ r ≤ 4294967295) → k (.int .u32 r) [] []
  | _ => False }
def woS : Eng.Spec := { ro := true, own := [], run := fun args _ k => match args with
  | [.int .u32 s, .int .i64 i] => inK .u32 s ∧ inK .i64 i ∧ ∀ r : Int, r = woV s i → (0 ≤ r ∧ r ≤ 4294967295) → k (.int .u32 r) [] []
  | _ => False }
def countS : Eng.Spec := { ro := true, own := [], run := fun args _ k => match args with
  | [.int .u32 s] => inK .u32 s ∧ ∀ r : Int, r = cnt 32 s → (0 ≤ r ∧ r ≤ 32) → k (.int .i64 r) [] []
  | _ => False }
def leastS : Eng.Spec := { ro := true, own := [], run := fun args _ k => match args with
  | [.int .u32 s] => inK .u32 s ∧ ∀ r : Int, r = leastV s → (-1 ≤ r ∧ r ≤ 31) → k (.int .i64 r) [] []
  | _ => False }
def bothS : Eng.Spec := { ro := true, own := [], run := fun args _ k => match args with
  | [.int .u32 s, .int .i64 i] => inK .u32 s ∧ inK .i64 i ∧ k (.bool true) [] []
  | _ => False }
def T1 : Tab := [(23, bitS)]
def T2 : Tab := [(7, hasS)]
def T3 : Tab := [(24, countS)]
def T4 : Tab := [(25, tzS)]
theorem T4_ok : TabOk Tryd.prog T4 := ⟨tz_ok, trivial⟩
def T5 : Tab := [(6, hasS), (7, hasS), (8, withS), (9, withS), (10, woS), (11, woS), (12, countS), (13, countS), (14, leastS), (15, leastS)]
def T6 : Tab := (16, trueS) :: T5
def rcountLoops (s : Int) : List Nat → Nat → Option LoopAnn := fun _ r => match r with
  | 3 => some { V := Int × Int, st := fun v => ⟨mk 15 [(0, .int .u32 s), (3, .int .i64 v.1), (4, .int .i64 v.2)], [], []⟩, I := fun v => (0 ≤ v.2 ∧ v.2 ≤ 32) ∧ v.1 = cnt v.2.toNat s ∧ (0 ≤ v.1 ∧ v.1 ≤ v.2), μ := fun v => (32 - v.2).toNat }
  | _ => none
def rleastLoops (s : Int) : List Nat → Nat → Option LoopAnn := fun _ r => match r with
  | 2 => some { V := Int, st := fun v => ⟨mk 12 [(0, .int .u32 s), (3, .int .i64 v)], [], []⟩, I := fun v => (0 ≤ v ∧ v ≤ 32) ∧ (∀ j : Int, 0 ≤ j → j < v → hasB s j = false), μ := fun v => (32 - v).toNat }
  | _ => none
def partsLoops (s i : Int) : List Nat → Nat → Option LoopAnn := fun _ r => match r with
  | 5 => some { V := Int × Int × Int × Int, st := fun v => ⟨mk 108 [(0, .int .u32 s), (1, .int .i64 i), (5, .bool true), (6, .int .u32 v.1), (7, .int .u32 v.2.1), (8, .int .i64 v.2.2.1), (9, .int .i64 v.2.2.2)], [], []⟩, I := fun v => (0 ≤ v.1 ∧ v.1 ≤ 4294967295) ∧ (0 ≤ v.2.1 ∧ v.2.1 ≤ 4294967295) ∧ (0 ≤ v.2.2.1 ∧ v.2.2.1 ≤ 32) ∧ (-1 ≤ v.2.2.2 ∧ v.2.2.2 ≤ 31) ∧ PI s v.1 v.2.1 v.2.2.1 v.2.2.2, μ := fun v => (31 - v.2.2.2).toNat }
  | 14 => some { V := Int, st := fun v => ⟨mk 108 [(0, .int .u32 s), (1, .int .i64 i), (5, .bool true), (11, .int .i64 v)], [], []⟩, I := fun v => (-1 ≤ v ∧ v ≤ 33), μ := fun v => (33 - v).toNat }
  | _ => none
end Go.Proofs.YtcnnbofjgmohaaaDoor

