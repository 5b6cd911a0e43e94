import Derived.Test.YtilbglkpbjamfaaFrG
import Derived.Test.YtilbglkpbjamfaaFrJ
namespace Go.Proofs.Ytilbglkpbjamfaa
open Go Go.Eng Go.Rw Go.Fr Go.Proofs
set_option linter.unusedVariables false
def pieceS : Eng.Spec := { ro := true, own := [], run := fun args _ k => match args with
  | [.sl 0 u] => u.length ≤ 1000000 ∧ (pc u = none → k (.tup [.agg [.int .u8 0, .int .u32 0, .nilsl], .bool false]) [] []) ∧ (∀ (kd sq : Int) (bo : List UInt8) (n : Nat), pc u = some (kd, sq, bo) → bo.length = n → inK .u8 kd → inK .u32 sq → k (.tup [.agg [.int .u8 kd, .int .u32 sq, .row 0 0 0 n], .bool true]) [] [.row 0 bo])
  | _ => False }
def new0S : Eng.Spec := { ro := true, own := [], run := fun args _ k => match args with
  | [] => k (.ptr 0 0) [] [.cells [.nilsl, .bool false, .bool false, .bool true]]
  | _ => False }
def newS : Eng.Spec := { ro := true, own := [], run := fun args _ k => match args with
  | [] => k (.ptr 0 0) [] [.cells [.row 0 1 0 0, .bool false, .bool false, .bool true], .row 0 []]
  | _ => False }
def feedS : Eng.Spec := { ro := false, own := [false, true], lend := fun j => Nat.beq j 0, run := fun args B k => match args, B with
  | [.ptr 0 0, .sl 0 b], [.cells [.row 0 901 0 n, .bool bg, .bool lg, .bool true], .row 0 us] => (n ≤ us.length ∧ n ≤ 1043) ∧ (16384 < b.length → k (.tup [.nilsl, .int .i64 3]) [some (.cells [.row 0 2 0 n, .bool bg, .bool lg, .bool true]), none] [.row 0 us]) ∧ (b.length ≤ 16384 → ∀ (b1 l1 : Bool) (us1 : List UInt8) (n1 m : Nat) (ys : List Msg), (b1, l1, us1.take n1) = rfold (bg, lg, us.take n) b → ys = msgs (bg, lg, us.take n) b → ys.length = m → (n1 ≤ us1.length ∧ n1 ≤ 1043) → k (.tup [.row 8 2 0 m, .int .i64 0]) [some (.cells [.row 0 3 0 n1, .bool b1, .bool l1, .bool true]), none] [.row 8 ys, .row 0 us1])
  | _, _ => False }
structure FIn (bg lg : Bool) (u b : List UInt8) (i : Nat) (b1 l1 : Bool) (u1 : List UInt8) (ys : List Msg) : Prop where
  c1 : (b1, l1, u1) = rfold (bg, lg, u) (b.take i)
  c2 : ys = msgs (bg, lg, u) (b.take i)
theorem fin_step {bg lg : Bool} {u b : List UInt8} {i j : Nat} {b1 l1 b2 l2 : Bool} {u1 u2 : List UInt8} {ys ys2 : List Msg} (h : FIn bg lg u b i b1 l1 u1 ys) (hi : i < b.length) (hj : j = i + 1) (hr : rst (b1, l1, u1) (b.getD i 0) = (b2, l2, u2)) (hy : ys2 = ys ++ emit (b1, l1, u1) (b.getD i 0)) : FIn bg lg u b j b2 l2 u2 ys2 :=
  ⟨by rw [hj, rfold_step _ hi, ← h.c1, hr], by rw [hj, msgs_step _ hi, ← h.c2, ← h.c1, hy]⟩
theorem emit_pcn {b1 l1 : Bool} {u : List UInt8} (x : UInt8) (h : pc u = none) : emit (b1, l1, u) x = [] := by
  unfold emit
  split
  · exact pcL_none h
  · rfl
theorem emit_pc {u : List UInt8} {t : Int × Int × List UInt8} {b1 l1 : Bool} (h : pc u = some t) (hb : b1 = true) (hl : l1 = false) : emit (b1, l1, u) 126 = [mkM t] := by
  subst hb; subst hl
  unfold emit
  rw [if_pos ⟨rfl, rfl, rfl⟩]
  exact pcL_of h
theorem emit_no {u : List UInt8} {b1 l1 : Bool} (x : UInt8) (h : b1 = true → l1 = true) : emit (b1, l1, u) x = [] := by
  unfold emit
  rw [if_neg]
  rintro ⟨-, h1, h2⟩
  rw [h h1] at h2; cases h2
theorem emit_oth {s : Rd} {x : UInt8} (h : x ≠ 126) : emit s x = [] := by unfold emit; rw [if_neg fun c => h c.1]
def feedLoops (n : Nat) (bg lg : Bool) (us b : List UInt8) : List Nat → Nat → Option LoopAnn := fun _ r => match r with
  | 7 => some { V := Nat × Bool × Bool × List UInt8 × Nat × List Msg, st := fun v => ⟨mk 99 [(0, .ptr 0 0), (6, .row 8 7777 0 v.2.2.2.2.2.length), (23, .sl 0 b), (24, .int .i64 b.length), (25, .int .i64 v.1)], [], [(0, .cells [.row 0 901 0 v.2.2.2.2.1, .bool v.2.1, .bool v.2.2.1, .bool true]), (901, .row 0 v.2.2.2.1), (7777, .row 8 v.2.2.2.2.2)]⟩, I := fun v => v.1 ≤ b.length ∧ b.length ≤ 16384 ∧ (v.2.2.2.2.1 ≤ v.2.2.2.1.length ∧ v.2.2.2.2.1 ≤ 1043) ∧ FIn bg lg (us.take n) b v.1 v.2.1 v.2.2.1 (v.2.2.2.1.take v.2.2.2.2.1) v.2.2.2.2.2 ∧ v.2.2.2.2.2.length ≤ v.1, μ := fun v => b.length - v.1, boxes := [(6, 7777, 8)] }
  | _ => none
def lastS : Eng.Spec := { ro := true, own := [], run := fun args _ k => match args with
  | [.sl 0 b, .int .u8 c] => c = 126 ∧ ∀ a : Int, a = lastE b → (-1 ≤ a ∧ a < b.length) → k (.int .i64 a) [] []
  | _ => False }
def lastLoops (b : List UInt8) (c : Int) : List Nat → Nat → Option LoopAnn := fun _ r => match r with
  | 2 => some { V := Int, st := fun v => ⟨mk 20 [(0, .sl 0 b), (1, .int .u8 c), (5, .int .i64 v)], [], []⟩, I := fun v => (-1 ≤ v ∧ v < b.length) ∧ lastE (b.drop (v + 1).toNat) = -1, μ := fun v => (v + 1).toNat }
  | _ => none
def scanS : Eng.Spec := { ro := false, own := [], run := fun args _ k => match args with
  | [.sl 0 b] => (16384 < b.length → k (.tup [.nilsl, .int .i64 0, .int .i64 3]) [] []) ∧ (b.length ≤ 16384 → ∀ (ys : List Msg) (m : Nat) (a : Int), ys = scan b → ys.length = m → a = lastE b → (-1 ≤ a ∧ a < b.length) → k (.tup [.row 8 0 0 m, .int .i64 a, .int .i64 0]) [] [.row 8 ys])
  | _ => False }
def writeS : Eng.Spec := { ro := true, own := [], run := fun args _ k => match args with
  | [.agg [.int .u8 kd, .int .u32 sq, .sl 0 bo]] => inK .u8 kd ∧ inK .u32 sq ∧ (512 < bo.length → k (.tup [.nilsl, .int .i64 3]) [] []) ∧ (bo.length ≤ 512 → ∀ (ys : List UInt8) (n : Nat), ys = wr kd sq bo → ys.length = n → k (.tup [.row 0 0 0 n, .int .i64 0]) [] [.row 0 ys])
  | _ => False }
def T3 : Tab := [(14, openS), (16, bareS), (10, insideS), (18, stuffS), (40, lastS)]

end Go.Proofs.Ytilbglkpbjamfaa

