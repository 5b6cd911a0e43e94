import Derived.Test.YtcccenipmefkiaaRaw1
namespace Go.Proofs.Ytcccenipmefkiaa
open Go Go.Eng Go.Proofs

/-- A number's bytes, the least first. -/
def putL (n : Nat) (w : Nat) : List UInt8 := (List.range w).map fun i => UInt8.ofNat (n / 256 ^ i)
def putOk (n w : Int) : Bool := decide (1 ≤ w ∧ w ≤ 8 ∧ n.toNat < 256 ^ w.toNat)
def putS : Eng.Spec := { ro := true, own := [], run := fun args _ k => match args with
  | [.int .u64 n, .int .i64 w] => inK .u64 n ∧ br (putOk n w) (k (.tup [.row 0 0 0 w.toNat, .int .i64 0]) [] [.row 0 (putL n.toNat w.toNat)]) (k (.tup [.nilsl, .int .i64 2]) [] [])
  | _ => False }
def putLoops (n w : Int) : List Nat → Nat → Option LoopAnn := fun _ r => match r with
  | 5 => some { V := Nat, st := fun i => ⟨mk 42 [(0, .int .u64 n), (6, .row 0 4001 0 w.toNat), (28, .int .i64 w), (29, .int .i64 i)], [], [(4001, .row 0 (putL n.toNat i ++ List.replicate (w.toNat - i) (0 : UInt8)))]⟩,
                I := fun i => i ≤ w.toNat, μ := fun i => w.toNat - i }
  | _ => none

/-- Small bytes, by fuel. -/
def smallF : Nat → Nat → List UInt8
  | 0, _ => []
  | f + 1, n => if n < 128 then [UInt8.ofNat n] else UInt8.ofNat (n % 128 + 128) :: smallF f (n / 128)
def smallL (n : Nat) : List UInt8 := smallF 10 n
def smallS : Eng.Spec := { ro := true, own := [], run := fun args _ k => match args with
  | [.int .u64 n] => inK .u64 n ∧ k (.row 0 0 0 (smallL n.toNat).length) [] [.row 0 (smallL n.toNat)]
  | _ => False }
def smallLoops (n : Int) : List Nat → Nat → Option LoopAnn := fun _ r => match r with
  | 2 => some { V := Nat × List UInt8, st := fun v => ⟨mk 19 [(0, .int .u64 v.1), (3, .row 0 77 0 v.2.length)], [], [(77, .row 0 v.2)]⟩,
                I := fun v => v.2.length < 10 ∧ v.1 < 2 ^ (64 - 7 * v.2.length) ∧ v.2 ++ smallF (10 - v.2.length) v.1 = smallL n.toNat, μ := fun v => 10 - v.2.length, boxes := [(3, 77, 0)] }
  | _ => none
def aliveS : Eng.Spec := { ro := true, own := [], run := fun args _ k => match args with
  | [] => k (.bool true) [] []
  | _ => False }
noncomputable def base2 : Env := { base with spec := fun f => match f with | 9 => some sumS | 10 => some refSumS | 11 => some sameS | 14 => some putS | 21 => some sameS | _ => none }
noncomputable def base3 : Env := { base with spec := fun f => match f with | 12 => some aliveS | 13 => some smallS | 14 => some putS | 21 => some sameS | _ => none }
end Go.Proofs.Ytcccenipmefkiaa
