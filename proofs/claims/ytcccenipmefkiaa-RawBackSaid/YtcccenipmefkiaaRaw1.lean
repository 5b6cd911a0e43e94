import Derived.Test.YtcccenipmefkiaaEngQ
import Derived.Test.YtcccenipmefkiaaProg
namespace Go.Proofs.Ytcccenipmefkiaa
open Go Go.Eng Go.Proofs

def tyCode : Nat → Nat := fun t => match t with | 5 => 0 | 3 => 1 | 23 => 2 | _ => 99
noncomputable def base : Env := { P := Try.prog, code := tyCode, spec := fun _ => none, loops := fun _ _ => none, cuts := fun _ _ => none }

def T : List UInt32 := [0, 0x1db71064, 0x3b6e20c8, 0x26d930ac, 0x76dc4190, 0x6b6b51f4, 0x4db26158, 0x5005713c, 0xedb88320, 0xf00f9344, 0xd6d6a3e8, 0xcb61b38c, 0x9b64c2b0, 0x86d3d2d4, 0xa00ae278, 0xbdbdf21c]
def nib (r x : Nat) : Nat := (r / 16) ^^^ (T.getD ((r ^^^ x) % 16) 0).toNat
def byteN (r x : Nat) : Nat := nib (nib r x) (x / 16)
def crcN (xs : List UInt8) : Nat := xs.foldl (fun r x => byteN r x.toNat) 4294967295

def sumS : Eng.Spec := { ro := true, own := [], run := fun args _ k => match args with
  | [.sl 0 xs] => xs.length ≤ 1000000 ∧ k (.int .u32 ((crcN xs ^^^ 4294967295 : Nat) : Int)) [] []
  | _ => False }
def sumLoops (xs : List UInt8) : List Nat → Nat → Option LoopAnn := fun _ n => match n with
  | 4 => some { V := Nat × Nat, st := fun v => ⟨mk 38 [(3, .ptr 2001 0), (4, .int .u32 v.2), (8, .sl 0 xs), (9, .int .i64 xs.length), (10, .int .i64 v.1)], [], [(2001, .row 2 T)]⟩,
                I := fun v => v.1 ≤ xs.length ∧ v.2 ≤ 4294967295 ∧ v.2 = crcN (xs.take v.1), μ := fun v => xs.length - v.1 }
  | _ => none
end Go.Proofs.Ytcccenipmefkiaa
namespace Go.Proofs.Ytcccenipmefkiaa
open Go Go.Eng Go.Proofs
def bitN (r : Nat) : Nat := if r % 2 = 1 then (r / 2) ^^^ 3988292384 else r / 2
def iterN : Nat → Nat → Nat
  | 0, r => r
  | k + 1, r => bitN (iterN k r)
def crcR (xs : List UInt8) : Nat := xs.foldl (fun r x => iterN 8 (r ^^^ x.toNat)) 4294967295
def refSumS : Eng.Spec := { ro := true, own := [], run := fun args _ k => match args with
  | [.sl 0 xs] => xs.length ≤ 1000000 ∧ k (.int .u32 ((crcR xs ^^^ 4294967295 : Nat) : Int)) [] []
  | _ => False }
def refSumLoops (xs : List UInt8) : List Nat → Nat → Option LoopAnn := fun l n => match n with
  | 3 => some { V := Nat × Nat, st := fun v => ⟨mk 34 [(0, .sl 0 xs), (3, .int .u32 v.2), (4, .int .i64 v.1)], [], []⟩,
                I := fun v => v.1 ≤ xs.length ∧ v.2 ≤ 4294967295 ∧ v.2 = crcR (xs.take v.1), μ := fun v => xs.length - v.1, key := fun v => v.1 }
  | 7 => some { V := Nat × Nat × Nat, st := fun v => ⟨mk 34 [(0, .sl 0 xs), (3, .int .u32 v.2.1), (4, .int .i64 v.1), (5, .int .i64 v.2.2)], [], []⟩,
                I := fun v => v.1 = l.headD 0 ∧ v.1 < xs.length ∧ v.2.2 ≤ 8 ∧ v.2.1 ≤ 4294967295 ∧ v.2.1 = iterN v.2.2 (crcR (xs.take v.1) ^^^ (xs.getD v.1 0).toNat), μ := fun v => 8 - v.2.2 }
  | _ => none
def sameS : Eng.Spec := { ro := true, own := [], run := fun args _ k => match args with
  | [.sl 0 xs, .sl 0 ys] => k (.bool (eqB xs ys)) [] []
  | _ => False }
end Go.Proofs.Ytcccenipmefkiaa
namespace Go.Proofs.Ytcccenipmefkiaa
open Go Go.Eng Go.Proofs
noncomputable def base1 : Env := { base with spec := fun f => match f with | 9 => some sumS | 10 => some refSumS | 11 => some sameS | _ => none }
end Go.Proofs.Ytcccenipmefkiaa
