import Derived.Test.YtcccenipmefkiaaRaw6
namespace Go.Proofs.Ytcccenipmefkiaa
open Go Go.Eng Go.Proofs
/-- A number out of its bytes. -/
def getL : List UInt8 → Nat
  | [] => 0
  | x :: r => x.toNat + 256 * getL r
def getOk (xs : List UInt8) : Bool := decide (1 ≤ xs.length ∧ xs.length ≤ 8)
def getS : Eng.Spec := { ro := true, own := [], run := fun args _ k => match args with
  | [.sl 0 xs] => br (getOk xs) (k (.tup [.int .u64 (getL xs), .int .i64 0]) [] []) (k (.tup [.int .u64 0, .int .i64 8]) [] [])
  | _ => False }
def getLoops (xs : List UInt8) : List Nat → Nat → Option LoopAnn := fun _ r => match r with
  | 4 => some { V := Nat, st := fun i => ⟨mk 30 [(2, .int .u64 (getL (xs.take i))), (14, .sl 0 xs), (15, .int .i64 xs.length), (16, .int .i64 i)], [], []⟩,
                I := fun i => i ≤ xs.length ∧ xs.length ≤ 8, μ := fun i => xs.length - i }
  | _ => none
/-- A number out of small bytes: it, how many bytes it has, the error. -/
def readG : Nat → Nat → List UInt8 → Nat × Nat × Nat
  | _, _, [] => (0, 0, 8)
  | i, acc, x :: r => if i = 9 ∧ 1 < x.toNat then (0, 0, 8) else
      if x.toNat < 128 then (if x.toNat = 0 ∧ 0 < i then (0, 0, 8) else (acc + x.toNat % 128 * 128 ^ i, i + 1, 0))
      else readG (i + 1) (acc + x.toNat % 128 * 128 ^ i) r
def readS : Eng.Spec := { ro := true, own := [], run := fun args _ k => match args with
  | [.sl 0 xs] => xs.length ≤ 1000000 ∧ k (.tup [.int .u64 (readG 0 0 xs).1, .int .i64 (readG 0 0 xs).2.1, .int .i64 (readG 0 0 xs).2.2]) [] []
  | _ => False }
def readLoops (xs : List UInt8) : List Nat → Nat → Option LoopAnn := fun _ r => match r with
  | 3 => some { V := Nat × Nat, st := fun v => ⟨mk 41 [(5, .int .u64 v.2), (8, .sl 0 xs), (9, .int .i64 xs.length), (10, .int .i64 v.1)], [], []⟩,
                I := fun v => v.1 ≤ xs.length ∧ v.1 ≤ 9 ∧ v.2 < 128 ^ v.1 ∧ readG v.1 v.2 (xs.drop v.1) = readG 0 0 xs, μ := fun v => xs.length - v.1 }
  | _ => none
end Go.Proofs.Ytcccenipmefkiaa
