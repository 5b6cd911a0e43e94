import Derived.Test.YtmlfpijallccgaaFxB
import Derived.Test.YtmlfpijallccgaaLdA
namespace Go.Proofs.Ytmlfpijallccgaa
open Go Go.Eng Go.Fx Go.Proofs
set_option linter.unusedVariables false
def fxS : Eng.Spec := { ro := true, own := [], run := fun args _ k => match args with
  | [.int .i64 a] => inK .i64 a ∧ k (.bool (decide (0 ≤ a ∧ a ≤ 65536))) [] []
  | _ => False }
def aboveS : Eng.Spec := { ro := true, own := [], run := fun args _ k => match args with
  | [.int .i64 a, .int .i64 b] => k (.bool (decide (a > b))) [] []
  | _ => False }
def mixedS : Eng.Spec := { ro := true, own := [], run := fun args _ k => match args with
  | [.int .i64 a, .int .i64 b, .int .i64 c] => inK .i64 a ∧ inK .i64 b ∧ inK .i64 c ∧ (0 ≤ a ∧ a ≤ 65536) ∧ (0 ≤ b ∧ b ≤ 65536) ∧ (0 ≤ c ∧ c ≤ 65536) ∧ ∀ r : Int, r = mixI a b c → True → k (.int .i64 r) [] []
  | _ => False }
def fullS : Eng.Spec := { ro := true, own := [], run := fun args _ k => match args with
  | [.int .i64 green, .int .i64 busy, .int .i64 came, .int .i64 headway] => inK .i64 green ∧ inK .i64 busy ∧ inK .i64 came ∧ inK .i64 headway ∧ loadOk green busy came headway ∧ ∀ v : Int, v = loadV green busy came headway → (0 ≤ v ∧ v ≤ 65536) → k (.int .i64 v) [] []
  | _ => False }
def loadS : Eng.Spec := { ro := true, own := [], run := fun args _ k => match args with
  | [.int .i64 green, .int .i64 busy, .int .i64 came, .int .i64 headway] => inK .i64 green ∧ inK .i64 busy ∧ inK .i64 came ∧ inK .i64 headway ∧ ∀ v e : Int, v = loadV green busy came headway → e = loadE green busy came headway → (0 ≤ v ∧ v ≤ 65536) → (e = 0 ∨ e = 2) → k (.tup [.int .i64 v, .int .i64 e]) [] []
  | _ => False }
def smoothS : Eng.Spec := { ro := true, own := [], run := fun args _ k => match args with
  | [.int .i64 a, .int .i64 b, .int .i64 c] => inK .i64 a ∧ inK .i64 b ∧ inK .i64 c ∧ ∀ v e : Int, v = smoothV a b c → e = smoothE a b c → (0 ≤ v ∧ v ≤ 65536) → (e = 0 ∨ e = 2) → k (.tup [.int .i64 v, .int .i64 e]) [] []
  | _ => False }
def bestS : Eng.Spec := { ro := true, own := [], run := fun args _ k => match args with
  | [.sl 1 xs, .fn (.func 20) [] []] => k (.int .i64 (tp xs xs.length)) [] []
  | _ => False }
def topS : Eng.Spec := { ro := true, own := [], run := fun args _ k => match args with
  | [.sl 1 xs] => k (.int .i64 (tp xs xs.length)) [] []
  | _ => False }
def highS : Eng.Spec := { ro := true, own := [], run := fun args _ k => match args with
  | [.sl 1 xs] => k (.tup [.int .i64 (hi xs).1, .int .i64 (hi xs).2.1, .int .i64 (hi xs).2.2]) [] []
  | _ => False }
def lawTells : Eng.Spec := { ro := true, own := [], run := fun args _ k => match args with
  | [.int .i64 green, .int .i64 busy, .int .i64 came, .int .i64 headway, .sl 1 xs] => inK .i64 green ∧ inK .i64 busy ∧ inK .i64 came ∧ inK .i64 headway ∧ k (.bool true) [] []
  | _ => False }
def topI (xs : List Int) (v : Int × Int) : Prop := (0 ≤ v.2 ∧ v.2 ≤ xs.length) ∧ v.1 = tp xs v.2.toNat
def bestLoops (xs : List Int) : List Nat → Nat → Option LoopAnn := fun _ r => match r with
  | 3 => some { V := Int × Int, st := fun v => ⟨mk 29 [(0, .sl 1 xs), (1, .fn (.func 20) [] []), (5, .int .i64 v.1), (8, .sl 1 xs), (9, .int .i64 xs.length), (10, .int .i64 v.2)], [], []⟩, I := fun v => (0 ≤ v.2 ∧ v.2 ≤ xs.length) ∧ v.1 = tp xs v.2.toNat, μ := fun v => xs.length - v.2.toNat }
  | _ => none
def topLoops (xs : List Int) : List Nat → Nat → Option LoopAnn := fun _ r => match r with
  | 3 => some { V := Int × Int, st := fun v => ⟨mk 26 [(0, .sl 1 xs), (3, .int .i64 v.1), (4, .int .i64 v.2)], [], []⟩, I := fun v => (0 ≤ v.2 ∧ v.2 ≤ xs.length) ∧ v.1 = tp xs v.2.toNat, μ := fun v => xs.length - v.2.toNat }
  | _ => none
def highLoops (xs : List Int) : List Nat → Nat → Option LoopAnn := fun _ r => match r with
  | 4 => some { V := Int, st := fun v => ⟨mk 30 [(0, .sl 1 xs), (11, .sl 1 xs), (12, .int .i64 xs.length), (13, .int .i64 v)], [], []⟩, I := fun v => (0 ≤ v ∧ v ≤ xs.length) ∧ (xs.take v.toNat).all fx = true, μ := fun v => xs.length - v.toNat }
  | _ => none
def rhighLoops (xs : List Int) : List Nat → Nat → Option LoopAnn := fun _ r => match r with
  | 4 => some { V := Int, st := fun v => ⟨mk 31 [(0, .sl 1 xs), (5, .int .i64 v)], [], []⟩, I := fun v => (0 ≤ v ∧ v ≤ xs.length) ∧ (xs.take v.toNat).all fx = true, μ := fun v => xs.length - v.toNat }
  | _ => none
def tellsLoops (xs : List Int) : List Nat → Nat → Option LoopAnn := fun _ r => match r with
  | 12 => some { V := Int, st := fun v => ⟨mk 95 [(4, .sl 1 xs), (11, .row 1 5002 0 xs.length), (22, .int .i64 v)], [], [(5002, .row 1 xs)]⟩, I := fun v => 0 ≤ v ∧ v ≤ xs.length, μ := fun v => xs.length - v.toNat }
  | _ => none
def T3 : Tab := [(25, s1 stopI BD), (16, s1 ofI BD), (15, divS), (23, s3 mixI BD), (18, fxS), (21, fxS), (20, aboveS), (24, mixedS), (17, fullS)]
def T4 : Tab := (19, bestS) :: (22, topS) :: T3
def T5 : Tab := [(8, trueS), (9, loadS), (10, loadS), (13, smoothS), (14, smoothS), (11, highS), (12, highS)]
end Go.Proofs.Ytmlfpijallccgaa

