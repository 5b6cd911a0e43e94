/- WellLast: the share is how many of the last ticks something came in; behind 64 ticks nothing of before counts. Any ticks, any window. No conditions beyond the row's own. -/
import Derived.Test.YtdhdbdaceklkhaaWlF
import Derived.Test.YtdhdbdaceklkhaaEngR
import Derived.Test.YtdhdbdaceklkhaaRows
namespace Go.Proofs.Ytdhdbdaceklkhaa
open Go Go.Eng Go.Fx Go.Proofs
set_option linter.unusedVariables false
set_option maxHeartbeats 2000000 in
theorem wbehind_vc (b : Int) (b0 : (0 : Int) ≤ b) (b1 : b ≤ (18446744073709551615 : Int)) (xs : List Bool) (k : AV → List (Option Blk) → List Blk → Prop) (hk : ∀ (r : Int), r = wF b xs → (0 : Int) ≤ r ∧ r ≤ (18446744073709551615 : Int) → k (AV.agg [AV.int IntKind.u64 r]) [] []) :
  (
   ∃ (v : Int × Int),
   (xs = xs) ∧
   ((0 : Int) = v.fst) ∧
   (b = v.snd) ∧
   ((0 : Int) = (0 : Int)) ∧
   (
    ((0 : Int) ≤ v.fst) ∧
    (v.fst ≤ (↑xs.length : Int))) ∧
   (
    ((0 : Int) ≤ v.snd) ∧
    (v.snd ≤ (18446744073709551615 : Int))) ∧
   (v.snd = wF b (List.take v.fst.toNat xs))) ∧
  ∀ (v_1 : Int × Int),
  (((0 : Int) ≤ v_1.fst ∧ v_1.fst ≤ (↑xs.length : Int)) ∧ ((0 : Int) ≤ v_1.snd ∧ v_1.snd ≤ (18446744073709551615 : Int)) ∧ v_1.snd = wF b (List.take v_1.fst.toNat xs)) →
  ∀ (n3 : Int),
  (n3 = (↑xs.length : Int)) →
  ((-9223372036854775808 : Int) ≤ n3 ∧ n3 ≤ (9223372036854775807 : Int)) →
  br (decide (v_1.fst < n3))
   (((0 : Int) ≤ v_1.fst) ∧
    (v_1.fst < (↑xs.length : Int)) ∧
    (
     ((0 : Int) ≤ v_1.snd) ∧
     (v_1.snd ≤ (18446744073709551615 : Int))) ∧
    ∀ (r_6 : Int),
    (r_6 = wN v_1.snd (xs.getD v_1.fst.toNat false)) →
    ((0 : Int) ≤ r_6 ∧ r_6 ≤ (18446744073709551615 : Int)) →
    ∀ (n9 : Int),
    (n9 = IntKind.i64.wrap (v_1.fst + (1 : Int))) →
    ((-9223372036854775808 : Int) ≤ n9 ∧ n9 ≤ (9223372036854775807 : Int)) →
    ∃ (v' : Int × Int),
    (xs = xs) ∧
    (n9 = v'.fst) ∧
    (r_6 = v'.snd) ∧
    ((0 : Int) = (0 : Int)) ∧
    (
     (
      ((0 : Int) ≤ v'.fst) ∧
      (v'.fst ≤ (↑xs.length : Int))) ∧
     (
      ((0 : Int) ≤ v'.snd) ∧
      (v'.snd ≤ (18446744073709551615 : Int))) ∧
     (v'.snd = wF b (List.take v'.fst.toNat xs))) ∧
    (((↑xs.length : Int) - v'.fst).toNat < ((↑xs.length : Int) - v_1.fst).toNat))
   ((k (AV.agg [AV.int IntKind.u64 v_1.snd]) [] [])) := by
  refine ⟨?_, ?_⟩
  · -- left
    refine ⟨((0 : Int), b), ?_⟩
    refine ⟨by first | with_reducible rfl | rfl, ?_⟩ -- xs = xs
    refine ⟨by first | with_reducible rfl | rfl, ?_⟩ -- (0 : Int) = (0 : Int)
    refine ⟨by first | with_reducible rfl | rfl, ?_⟩ -- b = b
    refine ⟨by first | with_reducible rfl | rfl, ?_⟩ -- (0 : Int) = (0 : Int)
    refine ⟨by first | omega | (dsimp only; omega), ?_⟩ -- (0 : Int) ≤ (0 : Int) ∧ (0 : Int) ≤ (↑xs.length : Int)
    refine ⟨by exact ⟨by assumption, by assumption⟩, ?_⟩ -- (0 : Int) ≤ b ∧ b ≤ (18446744073709551615 : Int)
    exact by rfl -- b = wF b (List.take (Int.toNat (0 : Int)) xs)
  intro v_1
  intro h1 -- ((0 : Int) ≤ v_1.fst ∧ v_1.fst ≤ (↑xs.length : Int)) ∧ ((0 : Int) ≤ v_1.snd ∧ v_1.snd ≤ (18446744073709551615 : Int)) ∧ v_1.snd = wF b (List.take v_1.fst.toNat xs)
  intro n3
  intro q3 -- n3 = (↑xs.length : Int)
  intro ⟨l3, u3⟩ -- (-9223372036854775808 : Int) ≤ n3 ∧ n3 ≤ (9223372036854775807 : Int)
  refine brd (fun c2 => ?_) (fun c2 => ?_) -- decide (v_1.fst < n3)
  · -- yes
    refine ⟨by first | omega | (dsimp only; omega), ?_⟩ -- (0 : Int) ≤ v_1.fst
    refine ⟨by first | omega | (dsimp only; omega), ?_⟩ -- v_1.fst < (↑xs.length : Int)
    refine ⟨by first | omega | (dsimp only; omega), ?_⟩ -- (0 : Int) ≤ v_1.snd ∧ v_1.snd ≤ (18446744073709551615 : Int)
    intro r_6
    intro h3 -- r_6 = wN v_1.snd (xs.getD v_1.fst.toNat false)
    intro ⟨a4, b4⟩ -- (0 : Int) ≤ r_6 ∧ r_6 ≤ (18446744073709551615 : Int)
    intro n9
    intro q9 -- n9 = IntKind.i64.wrap (v_1.fst + (1 : Int))
    rw [IntKind.wrap_i64] at q9
    intro ⟨l9, u9⟩ -- (-9223372036854775808 : Int) ≤ n9 ∧ n9 ≤ (9223372036854775807 : Int)
    refine ⟨(n9, r_6), ?_⟩
    refine ⟨by first | with_reducible rfl | rfl, ?_⟩ -- xs = xs
    refine ⟨by first | with_reducible rfl | rfl, ?_⟩ -- n9 = n9
    refine ⟨by first | with_reducible rfl | rfl, ?_⟩ -- r_6 = r_6
    refine ⟨by first | with_reducible rfl | rfl, ?_⟩ -- (0 : Int) = (0 : Int)
    refine ⟨?_, ?_⟩
    · -- left
      refine ⟨by first | omega | (dsimp only; omega), ?_⟩ -- (0 : Int) ≤ n9 ∧ n9 ≤ (↑xs.length : Int)
      refine ⟨by exact ⟨by assumption, by assumption⟩, ?_⟩ -- (0 : Int) ≤ r_6 ∧ r_6 ≤ (18446744073709551615 : Int)
      -- r_6 = wF b (List.take n9.toNat xs)
      have e := wF_next (b := b) (xs := xs) (i := v_1.fst) (n := n9) (by omega) (by omega) (by omega)
      rw [e, ← h1.2.2]; exact h3
    exact by show ((↑xs.length : Int) - n9).toNat < ((↑xs.length : Int) - v_1.fst).toNat; omega -- ((↑xs.length : Int) - n9).toNat < ((↑xs.length : Int) - v_1.fst).toNat
  · -- no
    -- k (AV.agg [AV.int IntKind.u64 v_1.snd]) [] []
    exact hk _ (by have e := h1.2.2; rw [show v_1.fst.toNat = xs.length by omega, List.take_length] at e; exact e) (by omega)

theorem wbehind_ok : Holds Try.prog 8 behindS := by
  refine fn_sound (env := mkEnv T5) (tab_ok T5_ok) Try.func8 Try.call8 fun args k h => ?_
  match args, h with
  | [.agg [.int .u64 b], .sl 4 xs], h => exact ⟨by kernel_rfl, behindLoops b xs, fun _ _ => none, .cast (by kernel_rfl) (wbehind_vc b h.1.1 h.1.2 xs k h.2)⟩
theorem T6_ok : TabOk Try.prog T6 := ⟨wbehind_ok, T5_ok⟩
set_option maxHeartbeats 2000000 in
theorem wellLast_vc (b : Int) (b0 : (0 : Int) ≤ b) (b1 : b ≤ (18446744073709551615 : Int)) (xs : List Bool) (w : Int) (w0 : (-9223372036854775808 : Int) ≤ w) (w1 : w ≤ (9223372036854775807 : Int)) (k : AV → List (Option Blk) → List Blk → Prop) (hk : k (AV.bool true) [] []) :
  ∀ (n1 : Int),
  (n1 = (↑xs.length : Int)) →
  ((-9223372036854775808 : Int) ≤ n1 ∧ n1 ≤ (9223372036854775807 : Int)) →
  br (bif bif decide (n1 > (300 : Int)) then true else decide (w < (1 : Int)) then true else decide (w > (64 : Int)))
   ((k (AV.bool true) [] []))
   ((
     ((0 : Int) ≤ b) ∧
     (b ≤ (18446744073709551615 : Int))) ∧
    ∀ (r_4 : Int),
    (r_4 = wF b xs) →
    ((0 : Int) ≤ r_4 ∧ r_4 ≤ (18446744073709551615 : Int)) →
    (
     ((0 : Int) ≤ r_4) ∧
     (r_4 ≤ (18446744073709551615 : Int))) ∧
    (
     ((-9223372036854775808 : Int) ≤ w) ∧
     (w ≤ (9223372036854775807 : Int))) ∧
    ∀ (v_7 : Int),
    ∀ (e_8 : Int),
    (v_7 = wS r_4 w) →
    (e_8 = wE w) →
    ((0 : Int) ≤ v_7 ∧ v_7 ≤ (65536 : Int)) →
    (e_8 = (0 : Int) ∨ e_8 = (2 : Int)) →
    (
     ∃ (v : Int × Int),
     (xs = xs) ∧
     (w = w) ∧
     (true = true) ∧
     (v_7 = wS (wF b xs) w) ∧
     (e_8 = wE w) ∧
     ((0 : Int) = v.fst) ∧
     ((0 : Int) = v.snd) ∧
     (b = b) ∧
     (r_4 = wF b xs) ∧
     (
      ((0 : Int) ≤ v.snd) ∧
      (v.snd ≤ w)) ∧
     (
      ((0 : Int) ≤ v.fst) ∧
      (v.fst ≤ v.snd)) ∧
     (v.fst = cnt v.snd.toNat (wF b xs))) ∧
    ∀ (v_13 : Int × Int),
    (((0 : Int) ≤ v_13.snd ∧ v_13.snd ≤ w) ∧ ((0 : Int) ≤ v_13.fst ∧ v_13.fst ≤ v_13.snd) ∧ v_13.fst = cnt v_13.snd.toNat (wF b xs)) →
    br (decide (v_13.snd < w))
     (∀ (n15 : Int),
      (n15 = (↑xs.length : Int)) →
      ((-9223372036854775808 : Int) ≤ n15 ∧ n15 ≤ (9223372036854775807 : Int)) →
      ∀ (n18 : Int),
      (n18 = IntKind.i64.wrap (n15 - (1 : Int))) →
      ((-9223372036854775808 : Int) ≤ n18 ∧ n18 ≤ (9223372036854775807 : Int)) →
      ∀ (n21 : Int),
      (n21 = IntKind.i64.wrap (n18 - v_13.snd)) →
      ((-9223372036854775808 : Int) ≤ n21 ∧ n21 ≤ (9223372036854775807 : Int)) →
      (
       (decide (n21 ≥ (0 : Int)) = true) →
       ((0 : Int) ≤ n21) ∧
       (n21 < (↑xs.length : Int))) ∧
      ∀ (n25 : Int),
      (n25 = b) →
      ∀ (n27 : Int),
      (n27 = IntKind.i64.wrap ((-1 : Int) - n21)) →
      ∀ (n29 : Int),
      (n29 = IntKind.u64.wrap n27) →
      (
       (decide (n21 < (0 : Int)) = true ∧ (bif decide (n21 ≥ (0 : Int)) then xs.getD n21.toNat false else false) = false) →
       ((0 : Int) ≤ n29)) ∧
      ∀ (n32 : Int),
      (n32 = n25.fdiv ((2 : Int) ^ min n29.toNat IntKind.u64.bits)) →
      (
       (decide (n21 < (0 : Int)) = true ∧ (bif decide (n21 ≥ (0 : Int)) then xs.getD n21.toNat false else false) = false) →
       ((2 : Int) ≠ (0 : Int))) ∧
      ∀ (n34 : Int),
      (n34 = n32.tmod (2 : Int)) →
      br (bif bif decide (n21 ≥ (0 : Int)) then xs.getD n21.toNat false else false then true else bif decide (n21 < (0 : Int)) then n34 == (1 : Int) else false)
       (∀ (n36 : Int),
        (n36 = IntKind.i64.wrap (v_13.fst + (1 : Int))) →
        ((-9223372036854775808 : Int) ≤ n36 ∧ n36 ≤ (9223372036854775807 : Int)) →
        ∀ (n39 : Int),
        (n39 = IntKind.i64.wrap (v_13.snd + (1 : Int))) →
        ((-9223372036854775808 : Int) ≤ n39 ∧ n39 ≤ (9223372036854775807 : Int)) →
        ∃ (v' : Int × Int),
        (xs = xs) ∧
        (w = w) ∧
        (true = true) ∧
        (wS (wF b xs) w = wS (wF b xs) w) ∧
        (wE w = wE w) ∧
        (n36 = v'.fst) ∧
        (n39 = v'.snd) ∧
        (b = b) ∧
        (wF b xs = wF b xs) ∧
        (
         (
          ((0 : Int) ≤ v'.snd) ∧
          (v'.snd ≤ w)) ∧
         (
          ((0 : Int) ≤ v'.fst) ∧
          (v'.fst ≤ v'.snd)) ∧
         (v'.fst = cnt v'.snd.toNat (wF b xs))) ∧
        ((w - v'.snd).toNat < (w - v_13.snd).toNat))
       (∀ (n42 : Int),
        (n42 = IntKind.i64.wrap (v_13.snd + (1 : Int))) →
        ((-9223372036854775808 : Int) ≤ n42 ∧ n42 ≤ (9223372036854775807 : Int)) →
        ∃ (v' : Int × Int),
        (xs = xs) ∧
        (w = w) ∧
        (true = true) ∧
        (wS (wF b xs) w = wS (wF b xs) w) ∧
        (wE w = wE w) ∧
        (v_13.fst = v'.fst) ∧
        (n42 = v'.snd) ∧
        (b = b) ∧
        (wF b xs = wF b xs) ∧
        (
         (
          ((0 : Int) ≤ v'.snd) ∧
          (v'.snd ≤ w)) ∧
         (
          ((0 : Int) ≤ v'.fst) ∧
          (v'.fst ≤ v'.snd)) ∧
         (v'.fst = cnt v'.snd.toNat (wF b xs))) ∧
        ((w - v'.snd).toNat < (w - v_13.snd).toNat)))
     (∀ (n45 : Int),
      (n45 = IntKind.i64.wrap (wS (wF b xs) w * w)) →
      ∀ (n47 : Int),
      (n47 = IntKind.i64.wrap (v_13.fst * (65536 : Int))) →
      ∀ (n49 : Int),
      (n49 = IntKind.i64.wrap (wS (wF b xs) w + (1 : Int))) →
      ∀ (n51 : Int),
      (n51 = IntKind.i64.wrap (n49 * w)) →
      ∀ (n53 : Int),
      (n53 = IntKind.i64.wrap (v_13.fst * (65536 : Int))) →
      br (bif bif bif bif wE w != (0 : Int) then true else decide (wS (wF b xs) w < (0 : Int)) then true else decide (wS (wF b xs) w > (65536 : Int)) then true else decide (n45 > n47) then true else decide (n51 ≤ n53))
       ((k (AV.bool false) [] []))
       (∀ (n55 : Int),
        (n55 = (↑xs.length : Int)) →
        br (decide (n55 < (64 : Int)))
         ((
           (true = true) →
           (true = true)) ∧
          (k (AV.bool (bif true then true else false)) [] []))
         ((
           ((0 : Int) ≤ (0 : Int)) ∧
           ((0 : Int) ≤ (18446744073709551615 : Int))) ∧
          ∀ (r_57 : Int),
          (r_57 = wF (0 : Int) xs) →
          ((0 : Int) ≤ r_57 ∧ r_57 ≤ (18446744073709551615 : Int)) →
          (k (AV.bool (bif true then bif false then true else wF b xs == r_57 && true else false)) [] []))))) := by
  intro n1
  intro q1 -- n1 = (↑xs.length : Int)
  intro ⟨l1, u1⟩ -- (-9223372036854775808 : Int) ≤ n1 ∧ n1 ≤ (9223372036854775807 : Int)
  refine br_intro (fun c1 => ?_) (fun c1 => ?_) -- bif bif decide (n1 > (300 : Int)) then true else decide (w < (1 : Int)) then true else decide (w > (64 : Int))
  · -- yes
    simp at c1 -- ((300 : Int) < n1 ∨ w < (1 : Int)) ∨ (64 : Int) < w
    exact by exact hk -- k (AV.bool true) [] []
  · -- no
    simp at c1 -- (n1 ≤ (300 : Int) ∧ (1 : Int) ≤ w) ∧ w ≤ (64 : Int)
    refine ⟨by exact ⟨by assumption, by assumption⟩, ?_⟩ -- (0 : Int) ≤ b ∧ b ≤ (18446744073709551615 : Int)
    intro r_4
    intro h2 -- r_4 = wF b xs
    intro ⟨a3, b3⟩ -- (0 : Int) ≤ r_4 ∧ r_4 ≤ (18446744073709551615 : Int)
    refine ⟨by exact ⟨by assumption, by assumption⟩, ?_⟩ -- (0 : Int) ≤ r_4 ∧ r_4 ≤ (18446744073709551615 : Int)
    refine ⟨by exact ⟨by assumption, by assumption⟩, ?_⟩ -- (-9223372036854775808 : Int) ≤ w ∧ w ≤ (9223372036854775807 : Int)
    intro v_7
    intro e_8
    intro h4 -- v_7 = wS r_4 w
    intro h5 -- e_8 = wE w
    intro ⟨a6, b6⟩ -- (0 : Int) ≤ v_7 ∧ v_7 ≤ (65536 : Int)
    intro h7 -- e_8 = (0 : Int) ∨ e_8 = (2 : Int)
    refine ⟨?_, ?_⟩
    · -- left
      refine ⟨((0 : Int), (0 : Int)), ?_⟩
      refine ⟨by first | with_reducible rfl | rfl, ?_⟩ -- xs = xs
      refine ⟨by first | with_reducible rfl | rfl, ?_⟩ -- w = w
      refine ⟨by first | with_reducible rfl | rfl, ?_⟩ -- true = true
      have h8 : v_7 = wS (wF b xs) w := by
        rw [h4, h2]
      refine ⟨h8, ?_⟩
      refine ⟨by show e_8 = wE w; assumption, ?_⟩ -- e_8 = wE w
      refine ⟨by first | with_reducible rfl | rfl, ?_⟩ -- (0 : Int) = (0 : Int)
      refine ⟨by first | with_reducible rfl | rfl, ?_⟩ -- (0 : Int) = (0 : Int)
      refine ⟨by first | with_reducible rfl | rfl, ?_⟩ -- b = b
      refine ⟨by show r_4 = wF b xs; assumption, ?_⟩ -- r_4 = wF b xs
      refine ⟨by first | omega | (dsimp only; omega), ?_⟩ -- (0 : Int) ≤ (0 : Int) ∧ (0 : Int) ≤ w
      refine ⟨by first | omega | (dsimp only; omega), ?_⟩ -- (0 : Int) ≤ (0 : Int) ∧ (0 : Int) ≤ (0 : Int)
      exact by rfl -- (0 : Int) = cnt (Int.toNat (0 : Int)) (wF b xs)
    intro v_13
    intro h9 -- ((0 : Int) ≤ v_13.snd ∧ v_13.snd ≤ w) ∧ ((0 : Int) ≤ v_13.fst ∧ v_13.fst ≤ v_13.snd) ∧ v_13.fst = cnt v_13.snd.toNat (wF b xs)
    refine brd (fun c10 => ?_) (fun c10 => ?_) -- decide (v_13.snd < w)
    · -- yes
      intro n15
      intro q15 -- n15 = (↑xs.length : Int)
      intro ⟨l15, u15⟩ -- (-9223372036854775808 : Int) ≤ n15 ∧ n15 ≤ (9223372036854775807 : Int)
      intro n18
      intro q18 -- n18 = IntKind.i64.wrap (n15 - (1 : Int))
      rw [IntKind.wrap_i64] at q18
      intro ⟨l18, u18⟩ -- (-9223372036854775808 : Int) ≤ n18 ∧ n18 ≤ (9223372036854775807 : Int)
      intro n21
      intro q21 -- n21 = IntKind.i64.wrap (n18 - v_13.snd)
      rw [IntKind.wrap_i64] at q21
      intro ⟨l21, u21⟩ -- (-9223372036854775808 : Int) ≤ n21 ∧ n21 ≤ (9223372036854775807 : Int)
      refine ⟨?_, ?_⟩
      · -- left
        intro h11 -- decide (n21 ≥ (0 : Int)) = true
        simp at h11 -- (0 : Int) ≤ n21
        refine ⟨by assumption, ?_⟩ -- (0 : Int) ≤ n21
        exact by omega -- n21 < (↑xs.length : Int)
      intro n25
      intro q25 -- n25 = b
      intro n27
      intro q27 -- n27 = IntKind.i64.wrap ((-1 : Int) - n21)
      rw [IntKind.wrap_i64] at q27
      intro n29
      intro q29 -- n29 = IntKind.u64.wrap n27
      rw [IntKind.wrap_u64] at q29
      refine ⟨?_, ?_⟩
      · -- left
        intro ⟨l29, u29⟩ -- decide (n21 < (0 : Int)) = true ∧ (bif decide (n21 ≥ (0 : Int)) then xs.getD n21.toNat false else false) = false
        simp at l29 -- n21 < (0 : Int)
        simp at u29 -- (0 : Int) ≤ n21 → xs[n21.toNat]?.getD false = false
        exact by omega -- (0 : Int) ≤ n29
      intro n32
      intro q32 -- n32 = n25.fdiv ((2 : Int) ^ min n29.toNat IntKind.u64.bits)
      refine ⟨?_, ?_⟩
      · -- left
        intro ⟨l32, u32⟩ -- decide (n21 < (0 : Int)) = true ∧ (bif decide (n21 ≥ (0 : Int)) then xs.getD n21.toNat false else false) = false
        simp at l32 -- n21 < (0 : Int)
        simp at u32 -- (0 : Int) ≤ n21 → xs[n21.toNat]?.getD false = false
        exact by omega -- (2 : Int) ≠ (0 : Int)
      intro n34
      intro q34 -- n34 = n32.tmod (2 : Int)
      refine br_intro (fun c12 => ?_) (fun c12 => ?_) -- bif bif decide (n21 ≥ (0 : Int)) then xs.getD n21.toNat false else false then true else bif decide (n21 < (0 : Int)) then n34 == (1 : Int) else false
      · -- yes
        simp at c12 -- (0 : Int) ≤ n21 ∧ xs[n21.toNat]?.getD false = true ∨ n21 < (0 : Int) ∧ n34 = (1 : Int)
        intro n36
        intro q36 -- n36 = IntKind.i64.wrap (v_13.fst + (1 : Int))
        rw [IntKind.wrap_i64] at q36
        intro ⟨l36, u36⟩ -- (-9223372036854775808 : Int) ≤ n36 ∧ n36 ≤ (9223372036854775807 : Int)
        intro n39
        intro q39 -- n39 = IntKind.i64.wrap (v_13.snd + (1 : Int))
        rw [IntKind.wrap_i64] at q39
        intro ⟨l39, u39⟩ -- (-9223372036854775808 : Int) ≤ n39 ∧ n39 ≤ (9223372036854775807 : Int)
        refine ⟨(n36, n39), ?_⟩
        refine ⟨by first | with_reducible rfl | rfl, ?_⟩ -- xs = xs
        refine ⟨by first | with_reducible rfl | rfl, ?_⟩ -- w = w
        refine ⟨by first | with_reducible rfl | rfl, ?_⟩ -- true = true
        refine ⟨by first | with_reducible rfl | rfl, ?_⟩ -- wS (wF b xs) w = wS (wF b xs) w
        refine ⟨by first | with_reducible rfl | rfl, ?_⟩ -- wE w = wE w
        refine ⟨by first | with_reducible rfl | rfl, ?_⟩ -- n36 = n36
        refine ⟨by first | with_reducible rfl | rfl, ?_⟩ -- n39 = n39
        refine ⟨by first | with_reducible rfl | rfl, ?_⟩ -- b = b
        refine ⟨by first | with_reducible rfl | rfl, ?_⟩ -- wF b xs = wF b xs
        refine ⟨?_, ?_⟩
        · -- left
          refine ⟨by first | omega | (dsimp only; omega), ?_⟩ -- (0 : Int) ≤ n39 ∧ n39 ≤ w
          refine ⟨by first | omega | (dsimp only; omega), ?_⟩ -- (0 : Int) ≤ n36 ∧ n36 ≤ n39
          -- n36 = cnt n39.toNat (wF b xs)
          have lb := (last_bit (b := b) (xs := xs) (i := v_13.snd) (m := n21) (s := n29) (q := n32) (r := n34) b0 (by omega) (by omega) (by omega) (by rw [q32, q25]) (by first | exact q34 | (rw [q34, Int.tmod_eq_emod_of_nonneg]; omega))).2 c12
          have cm := cnt_more (x := wF b xs) (i := v_13.snd) (n := n39) (by omega) (wF_bd b xs ⟨b0, b1⟩).1 (by omega)
          rw [wF_bits b ⟨b0, b1⟩ xs _ (by omega), lb, if_pos rfl] at cm
          (try dsimp only)
          omega
        exact by show (w - n39).toNat < (w - v_13.snd).toNat; omega -- (w - n39).toNat < (w - v_13.snd).toNat
      · -- no
        simp at c12 -- ((0 : Int) ≤ n21 → xs[n21.toNat]?.getD false = false) ∧ (n21 < (0 : Int) → ¬n34 = (1 : Int))
        intro n42
        intro q42 -- n42 = IntKind.i64.wrap (v_13.snd + (1 : Int))
        rw [IntKind.wrap_i64] at q42
        intro ⟨l42, u42⟩ -- (-9223372036854775808 : Int) ≤ n42 ∧ n42 ≤ (9223372036854775807 : Int)
        refine ⟨(v_13.fst, n42), ?_⟩
        refine ⟨by first | with_reducible rfl | rfl, ?_⟩ -- xs = xs
        refine ⟨by first | with_reducible rfl | rfl, ?_⟩ -- w = w
        refine ⟨by first | with_reducible rfl | rfl, ?_⟩ -- true = true
        refine ⟨by first | with_reducible rfl | rfl, ?_⟩ -- wS (wF b xs) w = wS (wF b xs) w
        refine ⟨by first | with_reducible rfl | rfl, ?_⟩ -- wE w = wE w
        refine ⟨by first | with_reducible rfl | rfl, ?_⟩ -- v_13.fst = v_13.fst
        refine ⟨by first | with_reducible rfl | rfl, ?_⟩ -- n42 = n42
        refine ⟨by first | with_reducible rfl | rfl, ?_⟩ -- b = b
        refine ⟨by first | with_reducible rfl | rfl, ?_⟩ -- wF b xs = wF b xs
        refine ⟨?_, ?_⟩
        · -- left
          refine ⟨by first | omega | (dsimp only; omega), ?_⟩ -- (0 : Int) ≤ n42 ∧ n42 ≤ w
          refine ⟨by first | omega | (dsimp only; omega), ?_⟩ -- (0 : Int) ≤ v_13.fst ∧ v_13.fst ≤ n42
          -- v_13.fst = cnt n42.toNat (wF b xs)
          have ln := mt (last_bit (b := b) (xs := xs) (i := v_13.snd) (m := n21) (s := n29) (q := n32) (r := n34) b0 (by omega) (by omega) (by omega) (by rw [q32, q25]) (by first | exact q34 | (rw [q34, Int.tmod_eq_emod_of_nonneg]; omega))).1 (fun h => by
            rcases h with h | h
            · rw [c12.1 h.1] at h; exact absurd h.2 (by decide)
            · exact c12.2 h.1 h.2)
          have lb : bitAt b xs v_13.snd.toNat = false := by simpa using ln
          have cm := cnt_more (x := wF b xs) (i := v_13.snd) (n := n42) (by omega) (wF_bd b xs ⟨b0, b1⟩).1 (by omega)
          rw [wF_bits b ⟨b0, b1⟩ xs _ (by omega), lb, if_neg (by decide)] at cm
          (try dsimp only)
          omega
        exact by show (w - n42).toNat < (w - v_13.snd).toNat; omega -- (w - n42).toNat < (w - v_13.snd).toNat
    · -- no
      intro n45
      intro q45 -- n45 = IntKind.i64.wrap (wS (wF b xs) w * w)
      rw [IntKind.wrap_i64] at q45
      intro n47
      intro q47 -- n47 = IntKind.i64.wrap (v_13.fst * (65536 : Int))
      rw [IntKind.wrap_i64] at q47
      intro n49
      intro q49 -- n49 = IntKind.i64.wrap (wS (wF b xs) w + (1 : Int))
      rw [IntKind.wrap_i64] at q49
      intro n51
      intro q51 -- n51 = IntKind.i64.wrap (n49 * w)
      rw [IntKind.wrap_i64] at q51
      intro n53
      intro q53 -- n53 = IntKind.i64.wrap (v_13.fst * (65536 : Int))
      rw [IntKind.wrap_i64] at q53
      refine br_intro (fun c13 => ?_) (fun c13 => ?_) -- bif bif bif bif wE w != (0 : Int) then true else decide (wS (wF b xs) w < (0 : Int)) then true else decide (wS (wF b xs) w > (65536 : Int)) then true else decide (n45 > n47) then true else decide (n51 ≤ n53)
      · -- yes
        simp at c13 -- (((¬wE w = (0 : Int) ∨ wS (wF b xs) w < (0 : Int)) ∨ (65536 : Int) < wS (wF b xs) w) ∨ n47 < n45) ∨ n51 ≤ n53
        -- k (AV.bool false) [] []
        have cc : v_13.fst = cnt w.toNat (wF b xs) := by
          have z := h9.2.2
          rw [show v_13.snd = w by omega] at z; exact z
        have SE := wshare (b := wF b xs) (w := w) (c := v_13.fst) (by omega) (wF_bd b xs ⟨b0, b1⟩).1 cc
        have ev : wS (wF b xs) w = v_13.fst * 65536 / w := by unfold wS; rw [if_pos (by omega), ← cc]
        have IQ := share_ineq (t := v_13.fst) (w := w) (x := wS (wF b xs) w) (by omega) ev
        have e49 : n49 = wS (wF b xs) w + 1 := by omega
        have e : (wS (wF b xs) w + 1) * w = wS (wF b xs) w * w + w := by rw [Int.add_mul, Int.one_mul]
        rw [e49, e] at q51
        rw [e] at IQ
        have z : 0 ≤ wS (wF b xs) w * w := Int.mul_nonneg (by omega) (by omega)
        have f45 : n45 = wS (wF b xs) w * w := by omega
        have f51 : n51 = wS (wF b xs) w * w + w := by omega
        have f47 : n47 = v_13.fst * 65536 := by omega
        have f53 : n53 = v_13.fst * 65536 := by omega
        have w0 := SE.2.2.2
        exfalso
        omega
      · -- no
        simp at c13 -- (((wE w = (0 : Int) ∧ (0 : Int) ≤ wS (wF b xs) w) ∧ wS (wF b xs) w ≤ (65536 : Int)) ∧ n45 ≤ n47) ∧ n53 < n51
        intro n55
        intro q55 -- n55 = (↑xs.length : Int)
        refine brd (fun c14 => ?_) (fun c14 => ?_) -- decide (n55 < (64 : Int))
        · -- yes
          refine ⟨?_, ?_⟩
          · -- left
            intro q55 -- true = true
            simp at q55 -- True
            exact by with_reducible rfl -- true = true
          exact by exact hk -- k (AV.bool (bif true then true else false)) [] []
        · -- no
          refine ⟨by first | omega | (dsimp only; omega), ?_⟩ -- (0 : Int) ≤ (0 : Int) ∧ (0 : Int) ≤ (18446744073709551615 : Int)
          intro r_57
          intro h15 -- r_57 = wF (0 : Int) xs
          intro ⟨a16, b16⟩ -- (0 : Int) ≤ r_57 ∧ r_57 ≤ (18446744073709551615 : Int)
          -- k (AV.bool (bif true then bif false then true else wF b xs == r_57 && true else false)) [] []
          have wf := wF_forgets ⟨b0, b1⟩ (xs := xs) (by omega)
          exact k_true hk (by rw [h15, wf]; simp)

theorem wellLast_ok : Holds Try.prog 3 lawLast := by
  refine fn_sound (env := mkEnv T6) (tab_ok T6_ok) Try.func3 Try.call3 fun args k h => ?_
  match args, h with
  | [.agg [.int .u64 b], .sl 4 xs, .int .i64 w], h => exact ⟨by kernel_rfl, lastLoops b xs w, fun _ _ => none, .cast (by kernel_rfl) (wellLast_vc b h.1.1 h.1.2 xs w h.2.1.1 h.2.1.2 k h.2.2)⟩
end Go.Proofs.Ytdhdbdaceklkhaa
namespace Go.Proofs.Ytdhdbdaceklkhaa
open Go.ChangeShapes Go.WideShapes Go.ChangeAt Go.RowKit Go.Eng
set_option linter.unusedVariables false

theorem ownA : ownKnob Try.prog.godebug = none := by kernel_rfl
theorem laidA : laidOutB Try.prog = true := by kernel_rfl

set_option maxHeartbeats 800000 in
set_option maxRecDepth 100000 in
theorem wellLastLifted (os : Os) (started : os.Started) (H : Type) (enc : TypeId × Value → H) :
    ReturnsInHanded {} Try.checked os 3 .any (Rows.wellLastSpec.pre6 enc Try.prog Try.f3 Rows.wellLastRow.domain false) (Rows.wellLastSpec.post enc Try.prog Try.f3 false true false false) := by
  refine returnsInHanded_of_change (C := Try.checked) ownA started (by kernel_rfl) Try.func3
    (ChangeSpec.witness6 (enc := enc) (C := Try.checked) false ⟨#[], #[.agg #[.int .u64 0], .slice none 0 0, .int .i64 0], []⟩ 8 (by kernel_rfl) (by kernel_rfl) (by kernel_rfl) (by kernel_rfl)) ?_
  intro W base args ds gs before hval0 hW hcnd _
  have hval : ∀ (j : Nat) t v, Try.f3.params[j]? = some t → args[j]? = some v → Value.okWide Try.prog W .any base t v := hval0
  have hW' := hW
  obtain ⟨p, q, hA0, hV, rfl, hfz, hnd⟩ := hW
  have hA : DataW.TrodAll enc Try.prog W 0 (fun _ => true) true Try.f3.params.toList args.toList ds p := hA0
  rw [Try.params3] at hA hval
  obtain ⟨v0, vs0, d0, ds0, p0, q0, hargs, rfl, rfl, h0, r0⟩ := trodAll_cons hA
  obtain ⟨v1, vs1, d1, ds1, p1, q1, rfl, rfl, rfl, h1, r1⟩ := trodAll_cons r0
  obtain ⟨v2, vs2, d2, ds2, p2, q2, rfl, rfl, rfl, h2, r2⟩ := trodAll_cons r1
  obtain ⟨rfl, rfl, rfl⟩ := trodAll_nil r2
  obtain rfl : args = #[v0, v1, v2] := by cases args; simp_all
  obtain ⟨rfl, rfl⟩ := trodVars_none hV
  have k0 := h0
  have lt0 : ∀ x ∈ p0, x.block < W.heap.size := by obtain ⟨m, hm⟩ := k0; exact DataW.trod_lt m _ _ _ hm
  obtain ⟨fuel0, hf0⟩ := h0
  obtain ⟨cs0, rfl, hsz0, hcs0⟩ := open_scal Try.underlying24 (by kernel_rfl) (by kernel_rfl) (hval 0 24 v0 rfl rfl) hf0
  obtain ⟨c0_0, rfl⟩ : ∃ b0, cs0 = #[b0] := by
    exact arr1 hsz0
  obtain ⟨n0_0, y0_0, hy0_0⟩ := hcs0 0 _ _ rfl rfl
  obtain ⟨a0_0, e0_0, -, w0_0⟩ := DataW.trod_int Try.underlying22 hy0_0
  obtain rfl : c0_0 = .int .u64 a0_0 := by simpa using e0_0
  have k1 := h1
  have lt1 : ∀ x ∈ p1, x.block < W.heap.size := by obtain ⟨m, hm⟩ := k1; exact DataW.trod_lt m _ _ _ hm
  obtain ⟨xs1, w1⟩ : ∃ xs : List Bool, Rep W (· < W.heap.size) noIds v1 (.sl 4 xs) := by
    obtain ⟨fuel, hf⟩ := h1
    exact rep_bools Try.underlying25 Try.underlying4 (by kernel_rfl) (hval 1 25 v1 rfl rfl) hf
  obtain ⟨a2, rfl, rfl, rfl, w2⟩ := open_int Try.underlying3 (hval 2 3 v2 rfl rfl) h2
  clear hA0 hval0
  have hk0_0 : kwf .u64 a0_0 := by simpa [Lit.wf, kwf] using w0_0
  have hk2 : kwf .i64 a2 := by simpa [Lit.wf, kwf] using w2
  -- PRE: what the spec asks (['hk0_0', 'hk2']), then rfl
  refine (calls_of_holds wellLast_ok Try.call3 (w := W) (vals := #[.agg #[.int .u64 a0_0], v1, .int .i64 a2]) (args := [.agg [.int .u64 a0_0], .sl 4 xs1, .int .i64 a2]) rfl (fun j v hj => ?_) ⟨hk0_0, hk2, rfl⟩).mono fun e W' ⟨he, bel⟩ => ?_
  · rcases j with _ | _ | _ | j
    · simp at hj; subst hj; refine .agg rfl (fun j v h => ?_) (fun j v h => ?_) <;> rcases j with _ | j <;> simp at h <;> subst h <;> first | rfl | exact .bool | exact .int (by assumption)
    · simp at hj; subst hj; exact w1
    · simp at hj; subst hj; exact .int hk2
    · simp at hj
  subst he
  exact ⟨_, rfl, _, _, _, [], _, [], hW', trodAll_mk1 (shut_bool Try.underlying4 _), (trodAll_cons_mk (Below.trod laidA (by kernel_rfl) (of_decide_eq_true (by kernel_rfl)) k0 bel lt0) (trodAll_cons_mk (Below.trod laidA (by kernel_rfl) (of_decide_eq_true (by kernel_rfl)) k1 bel lt1) (trodAll_cons_mk (shut_int Try.underlying3 w2) trodAll_mk0))), rfl, bel.frame _, fun h => by cases h⟩

theorem wellLast_said : Rows.WellLastSaid :=
  OpenClaim.holds_of_wide 3 Try.f3 rfl rfl rfl rfl rfl rfl rfl ⟨rfl, rfl, rfl, rfl, rfl⟩ rfl rfl rfl rfl rfl (by kernel_rfl) Try.func3 (by kernel_rfl)
    (of_decide_eq_true (by kernel_rfl)) (by unfold Func.isWrapper; first | (rw [if_pos (by decide +kernel)]; kernel_rfl) | (rw [if_neg (by decide +kernel)]; exact ⟨rfl, rfl⟩))
    (fun os started H enc _ => wellLastLifted os started H enc)
#print axioms wellLast_said
end Go.Proofs.Ytdhdbdaceklkhaa


