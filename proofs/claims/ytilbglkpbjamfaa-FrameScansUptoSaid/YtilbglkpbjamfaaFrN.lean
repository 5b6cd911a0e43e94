import Derived.Test.YtilbglkpbjamfaaFrM
namespace Go.Proofs.Ytilbglkpbjamfaa
open Go Go.Eng Go.Rw Go.Fr Go.Proofs
set_option linter.unusedVariables false
set_option maxHeartbeats 2000000 in
theorem fscan_vc (b : List UInt8) (k : AV → List (Option Blk) → List Blk → Prop) (hk : ((16384 : Nat) < b.length → k (AV.tup [AV.nilsl, AV.int IntKind.i64 (0 : Int), AV.int IntKind.i64 (3 : Int)]) [] []) ∧ (b.length ≤ (16384 : Nat) → ∀ (ys : List Msg) (m : Nat) (a : Int), ys = scan b → ys.length = m → a = lastE b → (-1 : Int) ≤ a ∧ a < (↑b.length : Int) → k (AV.tup [AV.row (8 : Nat) (0 : Nat) (0 : Nat) m, AV.int IntKind.i64 a, AV.int IntKind.i64 (0 : Int)]) [] [Blk.row (8 : Nat) ys])) :
  ∀ (n1 : Int),
  (n1 = (↑b.length : Int)) →
  ((-9223372036854775808 : Int) ≤ n1 ∧ n1 ≤ (9223372036854775807 : Int)) →
  br (decide (n1 > (16384 : Int)))
   ((k (AV.tup [AV.nilsl, AV.int IntKind.i64 (0 : Int), AV.int IntKind.i64 (3 : Int)]) [] []))
   ((
     ((0 : Nat) ≤ (0 : Nat)) ∧
     ((0 : Nat) ≤ (1043 : Nat))) ∧
    (
     ((16384 : Nat) < b.length) →
     ((126 : Int) = (126 : Int)) ∧
     ∀ (a_4 : Int),
     (a_4 = lastE b) →
     ((-1 : Int) ≤ a_4 ∧ a_4 < (↑b.length : Int)) →
     (k (AV.tup [AV.nilsl, AV.int IntKind.i64 a_4, AV.int IntKind.i64 (0 : Int)]) [] [])) ∧
    ((b.length ≤ (16384 : Nat)) →
    ∀ (b1_7 : Bool),
    ∀ (l1_8 : Bool),
    ∀ (us1_9 : List UInt8),
    ∀ (n1_10 : Nat),
    ∀ (m_11 : Nat),
    ∀ (ys_12 : List Msg),
    ((b1_7, l1_8, List.take n1_10 us1_9) = rfold (false, false, List.take (0 : Nat) []) b) →
    (ys_12 = msgs (false, false, List.take (0 : Nat) []) b) →
    (ys_12.length = m_11) →
    (n1_10 ≤ us1_9.length ∧ n1_10 ≤ (1043 : Nat)) →
    ((126 : Int) = (126 : Int)) ∧
    ∀ (a_17 : Int),
    (a_17 = lastE b) →
    ((-1 : Int) ≤ a_17 ∧ a_17 < (↑b.length : Int)) →
    (k (AV.tup [AV.row (8 : Nat) (0 : Nat) (0 : Nat) m_11, AV.int IntKind.i64 a_17, AV.int IntKind.i64 (0 : Int)]) [] [Blk.row (8 : Nat) ys_12]))) := by
  intro n1
  intro q1 -- n1 = (↑b.length : Int)
  intro ⟨l1, u1⟩ -- (-9223372036854775808 : Int) ≤ n1 ∧ n1 ≤ (9223372036854775807 : Int)
  refine brd (fun c1 => ?_) (fun c1 => ?_) -- decide (n1 > (16384 : Int))
  · -- yes
    -- k (AV.tup [AV.nilsl, AV.int IntKind.i64 (0 : Int), AV.int IntKind.i64 (3 : Int)]) [] []
    exact hk.1 (by omega)
  · -- no
    refine ⟨by first | omega | (dsimp only; omega), ?_⟩ -- (0 : Nat) ≤ (0 : Nat) ∧ (0 : Nat) ≤ (1043 : Nat)
    refine ⟨?_, ?_⟩
    · -- left
      intro h2 -- (16384 : Nat) < b.length
      refine ⟨by with_reducible rfl, ?_⟩ -- (126 : Int) = (126 : Int)
      intro a_4
      intro h3 -- a_4 = lastE b
      intro ⟨a4, b4⟩ -- (-1 : Int) ≤ a_4 ∧ a_4 < (↑b.length : Int)
      -- k (AV.tup [AV.nilsl, AV.int IntKind.i64 a_4, AV.int IntKind.i64 (0 : Int)]) [] []
      exfalso; omega
    intro h5 -- b.length ≤ (16384 : Nat)
    intro b1_7
    intro l1_8
    intro us1_9
    intro n1_10
    intro m_11
    intro ys_12
    intro h6 -- (b1_7, l1_8, List.take n1_10 us1_9) = rfold (false, false, List.take (0 : Nat) []) b
    intro h7 -- ys_12 = msgs (false, false, List.take (0 : Nat) []) b
    intro h8 -- ys_12.length = m_11
    intro ⟨a9, b9⟩ -- n1_10 ≤ us1_9.length ∧ n1_10 ≤ (1043 : Nat)
    refine ⟨by with_reducible rfl, ?_⟩ -- (126 : Int) = (126 : Int)
    intro a_17
    intro h10 -- a_17 = lastE b
    intro ⟨a11, b11⟩ -- (-1 : Int) ≤ a_17 ∧ a_17 < (↑b.length : Int)
    -- k (AV.tup [AV.row (8 : Nat) (0 : Nat) (0 : Nat) m_11, AV.int IntKind.i64 a_17, AV.int IntKind.i64 (0 : Int)]) [] [Blk.row (8 : Nat) ys_12]
    exact hk.2 h5 _ _ _ h7 h8 h10 ⟨a11, b11⟩

theorem fscan_ok : Holds Try.prog 21 scanS := by
  refine fn_sound (env := mkEnv T5) (tab_ok T5_ok) Try.func21 Try.call21 fun args k h => ?_
  match args, h with
  | [.sl 0 b], h => exact ⟨by kernel_rfl, fun _ _ => none, fun _ _ => none, .cast (by kernel_rfl) (fscan_vc b k h)⟩
structure okM (l : List Msg) : Prop where
  e : ∀ m, m ∈ l → m.body.length ≤ 512
def framesS : Eng.Spec := { ro := true, own := [], run := fun args _ k => match args with
  | [.sl 8 l] => l.length ≤ 100 ∧ k (.tup [.nilsl, .bool false]) [] [] ∧ (okM l → ∀ (ys : List UInt8) (n : Nat), ys = frs l → ys.length = n → k (.tup [.row 0 0 0 n, .bool true]) [] [.row 0 ys])
  | _ => False }
def framesLoops (l : List Msg) : List Nat → Nat → Option LoopAnn := fun _ r => match r with
  | 3 => some { V := Nat × List UInt8, st := fun v => ⟨mk 33 [(0, .sl 8 l), (4, .row 0 7777 0 v.2.length), (5, .int .i64 v.1)], [], [(7777, .row 0 v.2)]⟩, I := fun v => v.1 ≤ l.length ∧ l.length ≤ 100 ∧ v.2 = frs (l.take v.1) ∧ okM (l.take v.1) ∧ v.2.length ≤ 1100 * v.1, μ := fun v => l.length - v.1, boxes := [(4, 7777, 0)] }
  | _ => none
def T2w : Tab := [(12, writeS)]
theorem T2w_ok : TabOk Try.prog T2w := ⟨fwrite_ok, trivial⟩
structure PIn (p : List (List UInt8)) (i : Nat) (all : List UInt8) (got : List Msg) (bg lg : Bool) (u : List UInt8) : Prop where
  c1 : all = (p.take i).flatten
  c2 : (bg, lg, u) = rfold (false, false, []) all
  c3 : got = msgs (false, false, []) all
theorem pin_step {p : List (List UInt8)} {i j : Nat} {all all2 : List UInt8} {got got2 ys : List Msg} {bg lg b1 l1 : Bool} {u u1 : List UInt8} (h : PIn p i all got bg lg u) (hi : i < p.length) (hj : j = i + 1) (ha : all2 = all ++ p.getD i []) (hr : (b1, l1, u1) = rfold (bg, lg, u) (p.getD i [])) (hy : ys = msgs (bg, lg, u) (p.getD i [])) (hg : got2 = got ++ ys) : PIn p j all2 got2 b1 l1 u1 := by
  refine ⟨?_, ?_, ?_⟩
  · rw [hj, take_step p [] hi, List.flatten_append, List.flatten_singleton, ← h.c1, ha]
  · rw [ha, rfold_app, ← h.c2, hr]
  · rw [ha, msgs_app, ← h.c2, ← h.c3, hg, hy]
def piecesLoops (p : List (List UInt8)) : List Nat → Nat → Option LoopAnn := fun _ r => match r with
  | 8 => some { V := Nat × List UInt8 × List Msg × Bool × Bool × List UInt8 × Nat, st := fun v => ⟨mk 73 [(0, .sl 6 p), (3, .bool true), (4, .row 0 7777 0 v.2.1.length), (5, .row 8 7778 0 v.2.2.1.length), (6, .ptr 7000 0), (7, .int .i64 v.1)], [], [(7000, .cells [.row 0 14006 0 v.2.2.2.2.2.2, .bool v.2.2.2.1, .bool v.2.2.2.2.1, .bool true]), (14006, .row 0 v.2.2.2.2.2.1), (7777, .row 0 v.2.1), (7778, .row 8 v.2.2.1)]⟩, I := fun v => v.1 ≤ p.length ∧ v.1 ≤ 40 ∧ v.2.1.length ≤ 16384 ∧ v.2.2.1.length ≤ 16384 ∧ (v.2.2.2.2.2.2 ≤ v.2.2.2.2.2.1.length ∧ v.2.2.2.2.2.2 ≤ 1043) ∧ PIn p v.1 v.2.1 v.2.2.1 v.2.2.2.1 v.2.2.2.2.1 (v.2.2.2.2.2.1.take v.2.2.2.2.2.2), μ := fun v => p.length - v.1, boxes := [(4, 7777, 0), (5, 7778, 8), (1000600, 14006, 0)] }
  | _ => none
def lawPieces : Eng.Spec := { ro := true, own := [], run := fun args _ k => match args with
  | [.sl 6 p] => (∀ j : Nat, (p.getD j []).length ≤ 140737488355328) ∧ k (.bool true) [] []
  | _ => False }
def lawFound : Eng.Spec := { ro := true, own := [], run := fun args _ k => match args with
  | [.sl 0 a, .sl 8 l, .sl 0 b] => k (.bool true) [] []
  | _ => False }
end Go.Proofs.Ytilbglkpbjamfaa

