import Derived.Test.YtcccenipmefkiaaRwB
namespace Go.Proofs.Ytcccenipmefkiaa
open Go Go.Eng Go.Rw Go.Proofs
set_option linter.unusedVariables false
theorem alive_ok : Holds Try.prog 12 trueS := by
  refine fn_sound (env := lenv) lenv_ok Try.func12 Try.call12 fun args k h => ?_
  match args, h with
  | [], h => exact ⟨by kernel_rfl, fun _ _ => none, fun _ _ => none, .cast (by kernel_rfl) h⟩

set_option maxHeartbeats 2000000 in
theorem small_vc (n : Int) (n0 : (0 : Int) ≤ n) (n1 : n ≤ (18446744073709551615 : Int)) (k : AV → List (Option Blk) → List Blk → Prop) (hk : ∀ (ys : List UInt8) (q : Nat), ys = smallL n.toNat → ys.length = q → q ≤ (10 : Nat) → k (AV.row (0 : Nat) (0 : Nat) (0 : Nat) q) [] [Blk.row (0 : Nat) ys]) :
  (
   ∃ (v : Nat × Nat × List UInt8),
   (n = (↑v.fst : Int)) ∧
   ((0 : Nat) = (0 : Nat)) ∧
   ((0 : Nat) = v.snd.fst) ∧
   ([] = v.snd.snd) ∧
   (v.snd.snd.length = v.snd.fst) ∧
   (v.snd.fst < (10 : Nat)) ∧
   (v.fst < (2 : Nat) ^ ((64 : Nat) - (7 : Nat) * v.snd.fst)) ∧
   (v.snd.snd ++ smallF ((10 : Nat) - v.snd.fst) v.fst = smallL n.toNat)) ∧
  ∀ (v_1 : Nat × Nat × List UInt8),
  (v_1.snd.snd.length = v_1.snd.fst ∧ v_1.snd.fst < (10 : Nat) ∧ v_1.fst < (2 : Nat) ^ ((64 : Nat) - (7 : Nat) * v_1.snd.fst) ∧ v_1.snd.snd ++ smallF ((10 : Nat) - v_1.snd.fst) v_1.fst = smallL n.toNat) →
  br (decide ((↑v_1.fst : Int) > (127 : Int)))
   (∀ (n3 : Int),
    (n3 = IntKind.u8.wrap (↑v_1.fst : Int)) →
    ((0 : Int) ≤ n3 ∧ n3 ≤ (255 : Int)) →
    ∀ (n6 : Int),
    (n6 = bits BinOp.or IntKind.u8 n3 (128 : Int)) →
    ((0 : Int) ≤ n6 ∧ n6 ≤ (255 : Int)) →
    ((v_1.snd.fst + (1 : Nat)) * (1 : Nat) ≤ (140737488355328 : Nat)) ∧
    ∀ (z9 : List UInt8),
    (z9 = List.take v_1.snd.fst v_1.snd.snd ++ List.take (1 : Nat) (List.drop (0 : Nat) [UInt8.ofNat n6.toNat])) →
    ((0 : Int) ≤ (7 : Int)) ∧
    ∀ (n11 : Int),
    (n11 = (↑v_1.fst : Int).fdiv ((2 : Int) ^ min (Int.toNat (7 : Int)) IntKind.u64.bits)) →
    ((0 : Int) ≤ n11 ∧ n11 ≤ (18446744073709551615 : Int)) →
    ∃ (v' : Nat × Nat × List UInt8),
    (n11 = (↑v'.fst : Int)) ∧
    ((0 : Nat) = (0 : Nat)) ∧
    (v_1.snd.fst + (1 : Nat) = v'.snd.fst) ∧
    (z9 = v'.snd.snd) ∧
    (
     (v'.snd.snd.length = v'.snd.fst) ∧
     (v'.snd.fst < (10 : Nat)) ∧
     (v'.fst < (2 : Nat) ^ ((64 : Nat) - (7 : Nat) * v'.snd.fst)) ∧
     (v'.snd.snd ++ smallF ((10 : Nat) - v'.snd.fst) v'.fst = smallL n.toNat)) ∧
    ((10 : Nat) - v'.snd.fst < (10 : Nat) - v_1.snd.fst))
   (∀ (n14 : Int),
    (n14 = IntKind.u8.wrap (↑v_1.fst : Int)) →
    ((0 : Int) ≤ n14 ∧ n14 ≤ (255 : Int)) →
    ((v_1.snd.fst + (1 : Nat)) * (1 : Nat) ≤ (140737488355328 : Nat)) ∧
    ∀ (z17 : List UInt8),
    (z17 = List.take v_1.snd.fst v_1.snd.snd ++ List.take (1 : Nat) (List.drop (0 : Nat) [UInt8.ofNat n14.toNat])) →
    (k (AV.row (0 : Nat) (0 : Nat) (0 : Nat) (v_1.snd.fst + (1 : Nat))) [] [Blk.row (0 : Nat) z17])) := by
  refine ⟨?_, ?_⟩
  · -- left
    refine ⟨(n.toNat, (0 : Nat), []), ?_⟩
    refine ⟨by show n = (↑n.toNat : Int); omega, ?_⟩ -- n = (↑n.toNat : Int)
    refine ⟨by first | with_reducible rfl | rfl, ?_⟩ -- (0 : Nat) = (0 : Nat)
    refine ⟨by first | with_reducible rfl | rfl, ?_⟩ -- (0 : Nat) = (0 : Nat)
    refine ⟨by first | with_reducible rfl | rfl, ?_⟩ -- [] = []
    refine ⟨by first | with_reducible rfl | rfl, ?_⟩ -- (0 : Nat) = (0 : Nat)
    refine ⟨by show (0 : Nat) < (10 : Nat); omega, ?_⟩ -- (0 : Nat) < (10 : Nat)
    refine ⟨by show n.toNat < (2 : Nat) ^ ((64 : Nat) - (7 : Nat) * (0 : Nat)); omega, ?_⟩ -- n.toNat < (2 : Nat) ^ ((64 : Nat) - (7 : Nat) * (0 : Nat))
    exact by rfl -- [] ++ smallF ((10 : Nat) - (0 : Nat)) n.toNat = smallL n.toNat
  intro v_1
  intro h1 -- v_1.snd.snd.length = v_1.snd.fst ∧ v_1.snd.fst < (10 : Nat) ∧ v_1.fst < (2 : Nat) ^ ((64 : Nat) - (7 : Nat) * v_1.snd.fst) ∧ v_1.snd.snd ++ smallF ((10 : Nat) - v_1.snd.fst) v_1.fst = smallL n.toNat
  refine brd (fun c2 => ?_) (fun c2 => ?_) -- decide ((↑v_1.fst : Int) > (127 : Int))
  · -- yes
    intro n3
    intro q3 -- n3 = IntKind.u8.wrap (↑v_1.fst : Int)
    rw [IntKind.wrap_u8] at q3
    intro ⟨l3, u3⟩ -- (0 : Int) ≤ n3 ∧ n3 ≤ (255 : Int)
    intro n6
    intro q6 -- n6 = bits BinOp.or IntKind.u8 n3 (128 : Int)
    intro ⟨l6, u6⟩ -- (0 : Int) ≤ n6 ∧ n6 ≤ (255 : Int)
    refine ⟨by first | omega | (dsimp only; omega), ?_⟩ -- (v_1.snd.fst + (1 : Nat)) * (1 : Nat) ≤ (140737488355328 : Nat)
    intro z9
    intro qz9 -- z9 = List.take v_1.snd.fst v_1.snd.snd ++ List.take (1 : Nat) (List.drop (0 : Nat) [UInt8.ofNat n6.toNat])
    refine ⟨by first | omega | (dsimp only; omega), ?_⟩ -- (0 : Int) ≤ (7 : Int)
    intro n11
    intro q11 -- n11 = (↑v_1.fst : Int).fdiv ((2 : Int) ^ min (Int.toNat (7 : Int)) IntKind.u64.bits)
    rw [show (2 : Int) ^ min (Int.toNat (7 : Int)) IntKind.u64.bits = 128 from rfl, Int.fdiv_eq_ediv_of_nonneg _ (by decide)] at q11
    intro ⟨l11, u11⟩ -- (0 : Int) ≤ n11 ∧ n11 ≤ (18446744073709551615 : Int)
    refine ⟨(n11.toNat, v_1.snd.fst + (1 : Nat), z9), ?_⟩
    refine ⟨by show n11 = (↑n11.toNat : Int); omega, ?_⟩ -- n11 = (↑n11.toNat : Int)
    refine ⟨by first | with_reducible rfl | rfl, ?_⟩ -- (0 : Nat) = (0 : Nat)
    refine ⟨by first | with_reducible rfl | rfl, ?_⟩ -- v_1.snd.fst + (1 : Nat) = v_1.snd.fst + (1 : Nat)
    refine ⟨by first | with_reducible rfl | rfl, ?_⟩ -- z9 = z9
    refine ⟨?_, ?_⟩
    · -- left
      have h3 : z9.length = v_1.snd.fst + (1 : Nat) := by
        rw [qz9]; simp; omega
      refine ⟨h3, ?_⟩
      have h4 : v_1.snd.fst + (1 : Nat) < (10 : Nat) := by
        have := (small_step v_1.fst v_1.snd.fst h1.2.2.1 (by omega) h1.2.1).1
        omega
      refine ⟨h4, ?_⟩
      have h5 : n11.toNat < (2 : Nat) ^ ((64 : Nat) - (7 : Nat) * (v_1.snd.fst + (1 : Nat))) := by
        have := (small_step v_1.fst v_1.snd.fst h1.2.2.1 (by omega) h1.2.1).2
        have e : n11.toNat = v_1.fst / 128 := by omega
        rw [e]; exact this
      refine ⟨h5, ?_⟩
      -- z9 ++ smallF ((10 : Nat) - (v_1.snd.fst + (1 : Nat))) n11.toNat = smallL n.toNat
      have e5 : n11.toNat = v_1.fst / 128 := by omega
      have e3 := or128 v_1.fst n3 n6 q3 q6
      rw [← h1.2.2.2, e5, qz9, e3, List.take_of_length_le (by omega)]
      have e : 10 - v_1.snd.fst = (10 - (v_1.snd.fst + 1)) + 1 := by omega
      rw [e]
      have hF : smallF (10 - (v_1.snd.fst + 1) + 1) v_1.fst = UInt8.ofNat (v_1.fst % 128 + 128) :: smallF (10 - (v_1.snd.fst + 1)) (v_1.fst / 128) := by
        rw [smallF, if_neg (by omega)]
      rw [hF]
      simp
    exact by show (10 : Nat) - (v_1.snd.fst + (1 : Nat)) < (10 : Nat) - v_1.snd.fst; omega -- (10 : Nat) - (v_1.snd.fst + (1 : Nat)) < (10 : Nat) - v_1.snd.fst
  · -- no
    intro n14
    intro q14 -- n14 = IntKind.u8.wrap (↑v_1.fst : Int)
    rw [IntKind.wrap_u8] at q14
    intro ⟨l14, u14⟩ -- (0 : Int) ≤ n14 ∧ n14 ≤ (255 : Int)
    refine ⟨by first | omega | (dsimp only; omega), ?_⟩ -- (v_1.snd.fst + (1 : Nat)) * (1 : Nat) ≤ (140737488355328 : Nat)
    intro z17
    intro qz17 -- z17 = List.take v_1.snd.fst v_1.snd.snd ++ List.take (1 : Nat) (List.drop (0 : Nat) [UInt8.ofNat n14.toNat])
    -- k (AV.row (0 : Nat) (0 : Nat) (0 : Nat) (v_1.snd.fst + (1 : Nat))) [] [Blk.row (0 : Nat) z17]
    have e : 10 - v_1.snd.fst = (9 - v_1.snd.fst) + 1 := by omega
    have hF : smallF (10 - v_1.snd.fst) v_1.fst = [UInt8.ofNat v_1.fst] := by
      rw [e, smallF, if_pos (by omega)]
    have e6 : n14.toNat = v_1.fst := by omega
    exact hk z17 (v_1.snd.fst + 1) (by rw [qz17, ← h1.2.2.2, hF, e6, List.take_of_length_le (by omega)]; simp) (by rw [qz17]; simp; omega) (by omega)

theorem small_ok : Holds Try.prog 13 smallS := by
  refine fn_sound (env := mkEnv T0) (tab_ok T0_ok) Try.func13 Try.call13 fun args k h => ?_
  match args, h with
  | [.int .u64 n], h => exact ⟨by kernel_rfl, smallLoops n, fun _ _ => none, .cast (by kernel_rfl) (small_vc n h.1.1 h.1.2 k h.2)⟩
set_option maxHeartbeats 2000000 in
theorem read_vc (xs : List UInt8) (hxs : xs.length ≤ (1000000 : Nat)) (k : AV → List (Option Blk) → List Blk → Prop) (hk : ∀ (a b c : Int), a = (↑(readG (0 : Nat) (0 : Nat) xs).fst : Int) → b = (↑(readG (0 : Nat) (0 : Nat) xs).snd.fst : Int) → c = (↑(readG (0 : Nat) (0 : Nat) xs).snd.snd : Int) → (0 : Int) ≤ a ∧ a ≤ (18446744073709551615 : Int) → (0 : Int) ≤ b ∧ b ≤ (10 : Int) → c = (0 : Int) ∨ c = (8 : Int) → k (AV.tup [AV.int IntKind.u64 a, AV.int IntKind.i64 b, AV.int IntKind.i64 c]) [] []) :
  ∀ (n1 : Int),
  (n1 = (↑xs.length : Int)) →
  ((-9223372036854775808 : Int) ≤ n1 ∧ n1 ≤ (9223372036854775807 : Int)) →
  (
   ∃ (v : Nat × Nat),
   ((0 : Int) = (↑v.snd : Int)) ∧
   (xs = xs) ∧
   (n1 = (↑xs.length : Int)) ∧
   ((0 : Int) = (↑v.fst : Int)) ∧
   (v.fst ≤ xs.length) ∧
   (v.fst ≤ (9 : Nat)) ∧
   (v.snd < (128 : Nat) ^ v.fst) ∧
   (readG v.fst v.snd (List.drop v.fst xs) = readG (0 : Nat) (0 : Nat) xs)) ∧
  ∀ (v_4 : Nat × Nat),
  (v_4.fst ≤ xs.length ∧ v_4.fst ≤ (9 : Nat) ∧ v_4.snd < (128 : Nat) ^ v_4.fst ∧ readG v_4.fst v_4.snd (List.drop v_4.fst xs) = readG (0 : Nat) (0 : Nat) xs) →
  br (decide ((↑v_4.fst : Int) < (↑xs.length : Int)))
   (((0 : Int) ≤ (↑v_4.fst : Int)) ∧
    ((↑v_4.fst : Int) < (↑xs.length : Int)) ∧
    ∀ (n6 : Int),
    (n6 = (↑(xs.getD (↑v_4.fst : Int).toNat (0 : UInt8)).toNat : Int)) →
    ((0 : Int) ≤ n6 ∧ n6 ≤ (255 : Int)) →
    br (bif (↑v_4.fst : Int) == (9 : Int) then decide (n6 > (1 : Int)) else false)
     ((k (AV.tup [AV.int IntKind.u64 (0 : Int), AV.int IntKind.i64 (0 : Int), AV.int IntKind.i64 (8 : Int)]) [] []))
     (∀ (n9 : Int),
      (n9 = bits BinOp.and IntKind.u8 n6 (127 : Int)) →
      ((0 : Int) ≤ n9 ∧ n9 ≤ (255 : Int)) →
      ∀ (n12 : Int),
      (n12 = IntKind.u64.wrap n9) →
      ((0 : Int) ≤ n12 ∧ n12 ≤ (18446744073709551615 : Int)) →
      ∀ (n15 : Int),
      (n15 = IntKind.i64.wrap ((7 : Int) * (↑v_4.fst : Int))) →
      ((-9223372036854775808 : Int) ≤ n15 ∧ n15 ≤ (9223372036854775807 : Int)) →
      ((0 : Int) ≤ n15) ∧
      ∀ (n18 : Int),
      (n18 = IntKind.u64.wrap (n12 * (2 : Int) ^ min n15.toNat IntKind.u64.bits)) →
      ((0 : Int) ≤ n18 ∧ n18 ≤ (18446744073709551615 : Int)) →
      ∀ (n21 : Int),
      (n21 = bits BinOp.or IntKind.u64 (↑v_4.snd : Int) n18) →
      ((0 : Int) ≤ n21 ∧ n21 ≤ (18446744073709551615 : Int)) →
      br (decide (n6 < (128 : Int)))
       (br (bif n6 == (0 : Int) then decide ((↑v_4.fst : Int) > (0 : Int)) else false)
         ((k (AV.tup [AV.int IntKind.u64 (0 : Int), AV.int IntKind.i64 (0 : Int), AV.int IntKind.i64 (8 : Int)]) [] []))
         (∀ (n24 : Int),
          (n24 = IntKind.i64.wrap ((↑v_4.fst : Int) + (1 : Int))) →
          ((-9223372036854775808 : Int) ≤ n24 ∧ n24 ≤ (9223372036854775807 : Int)) →
          (k (AV.tup [AV.int IntKind.u64 n21, AV.int IntKind.i64 n24, AV.int IntKind.i64 (0 : Int)]) [] [])))
       (∀ (n27 : Int),
        (n27 = IntKind.i64.wrap ((↑v_4.fst : Int) + (1 : Int))) →
        ((-9223372036854775808 : Int) ≤ n27 ∧ n27 ≤ (9223372036854775807 : Int)) →
        ∃ (v' : Nat × Nat),
        (n21 = (↑v'.snd : Int)) ∧
        (xs = xs) ∧
        ((↑xs.length : Int) = (↑xs.length : Int)) ∧
        (n27 = (↑v'.fst : Int)) ∧
        (
         (v'.fst ≤ xs.length) ∧
         (v'.fst ≤ (9 : Nat)) ∧
         (v'.snd < (128 : Nat) ^ v'.fst) ∧
         (readG v'.fst v'.snd (List.drop v'.fst xs) = readG (0 : Nat) (0 : Nat) xs)) ∧
        (xs.length - v'.fst < xs.length - v_4.fst))))
   ((k (AV.tup [AV.int IntKind.u64 (0 : Int), AV.int IntKind.i64 (0 : Int), AV.int IntKind.i64 (8 : Int)]) [] [])) := by
  intro n1
  intro q1 -- n1 = (↑xs.length : Int)
  intro ⟨l1, u1⟩ -- (-9223372036854775808 : Int) ≤ n1 ∧ n1 ≤ (9223372036854775807 : Int)
  refine ⟨?_, ?_⟩
  · -- left
    refine ⟨(Int.toNat (0 : Int), Int.toNat (0 : Int)), ?_⟩
    refine ⟨by show (0 : Int) = (↑(Int.toNat (0 : Int)) : Int); omega, ?_⟩ -- (0 : Int) = (↑(Int.toNat (0 : Int)) : Int)
    refine ⟨by first | with_reducible rfl | rfl, ?_⟩ -- xs = xs
    refine ⟨by show n1 = (↑xs.length : Int); assumption, ?_⟩ -- n1 = (↑xs.length : Int)
    refine ⟨by show (0 : Int) = (↑(Int.toNat (0 : Int)) : Int); omega, ?_⟩ -- (0 : Int) = (↑(Int.toNat (0 : Int)) : Int)
    refine ⟨by show Int.toNat (0 : Int) ≤ xs.length; omega, ?_⟩ -- Int.toNat (0 : Int) ≤ xs.length
    refine ⟨by show Int.toNat (0 : Int) ≤ (9 : Nat); omega, ?_⟩ -- Int.toNat (0 : Int) ≤ (9 : Nat)
    refine ⟨by show Int.toNat (0 : Int) < (128 : Nat) ^ Int.toNat (0 : Int); decide, ?_⟩ -- Int.toNat (0 : Int) < (128 : Nat) ^ Int.toNat (0 : Int)
    exact by rfl -- readG (Int.toNat (0 : Int)) (Int.toNat (0 : Int)) (List.drop (Int.toNat (0 : Int)) xs) = readG (0 : Nat) (0 : Nat) xs
  intro v_4
  intro h1 -- v_4.fst ≤ xs.length ∧ v_4.fst ≤ (9 : Nat) ∧ v_4.snd < (128 : Nat) ^ v_4.fst ∧ readG v_4.fst v_4.snd (List.drop v_4.fst xs) = readG (0 : Nat) (0 : Nat) xs
  refine brd (fun c2 => ?_) (fun c2 => ?_) -- decide ((↑v_4.fst : Int) < (↑xs.length : Int))
  · -- yes
    refine ⟨by first | omega | (dsimp only; omega), ?_⟩ -- (0 : Int) ≤ (↑v_4.fst : Int)
    refine ⟨by assumption, ?_⟩ -- (↑v_4.fst : Int) < (↑xs.length : Int)
    intro n6
    intro q6 -- n6 = (↑(xs.getD (↑v_4.fst : Int).toNat (0 : UInt8)).toNat : Int)
    intro ⟨l6, u6⟩ -- (0 : Int) ≤ n6 ∧ n6 ≤ (255 : Int)
    refine br_intro (fun c3 => ?_) (fun c3 => ?_) -- bif (↑v_4.fst : Int) == (9 : Int) then decide (n6 > (1 : Int)) else false
    · -- yes
      simp at c3 -- (↑v_4.fst : Int) = (9 : Int) ∧ (1 : Int) < n6
      -- k (AV.tup [AV.int IntKind.u64 (0 : Int), AV.int IntKind.i64 (0 : Int), AV.int IntKind.i64 (8 : Int)]) [] []
      have e : n6 = (((xs.getD v_4.fst 0).toNat : Nat) : Int) := by rw [q6, Int.toNat_natCast]
      have hr := h1.2.2.2
      rw [read_at xs v_4.fst v_4.snd (by omega), if_pos (by omega)] at hr
      exact hk 0 0 8 (by rw [← hr]; rfl) (by rw [← hr]; rfl) (by rw [← hr]; rfl) (by omega) (by omega) (.inr rfl)
    · -- no
      simp at c3 -- (↑v_4.fst : Int) = (9 : Int) → n6 ≤ (1 : Int)
      intro n9
      intro q9 -- n9 = bits BinOp.and IntKind.u8 n6 (127 : Int)
      rw [and_u8 7 (by decide) 127 128 (by decide) (by decide) _ (by omega) (by omega)] at q9
      intro ⟨l9, u9⟩ -- (0 : Int) ≤ n9 ∧ n9 ≤ (255 : Int)
      intro n12
      intro q12 -- n12 = IntKind.u64.wrap n9
      rw [IntKind.wrap_u64] at q12
      intro ⟨l12, u12⟩ -- (0 : Int) ≤ n12 ∧ n12 ≤ (18446744073709551615 : Int)
      intro n15
      intro q15 -- n15 = IntKind.i64.wrap ((7 : Int) * (↑v_4.fst : Int))
      rw [IntKind.wrap_i64] at q15
      intro ⟨l15, u15⟩ -- (-9223372036854775808 : Int) ≤ n15 ∧ n15 ≤ (9223372036854775807 : Int)
      have h4 : (0 : Int) ≤ n15 := by
        first | omega | (have e := Int.emod_eq_of_lt (a := 7 * (v_4.fst : Int) + 9223372036854775808) (b := 18446744073709551616) (by omega) (by omega); omega)
      refine ⟨h4, ?_⟩
      intro n18
      intro q18 -- n18 = IntKind.u64.wrap (n12 * (2 : Int) ^ min n15.toNat IntKind.u64.bits)
      rw [IntKind.wrap_u64] at q18
      intro ⟨l18, u18⟩ -- (0 : Int) ≤ n18 ∧ n18 ≤ (18446744073709551615 : Int)
      intro n21
      intro q21 -- n21 = bits BinOp.or IntKind.u64 (↑v_4.snd : Int) n18
      intro ⟨l21, u21⟩ -- (0 : Int) ≤ n21 ∧ n21 ≤ (18446744073709551615 : Int)
      refine brd (fun c5 => ?_) (fun c5 => ?_) -- decide (n6 < (128 : Int))
      · -- yes
        refine br_intro (fun c6 => ?_) (fun c6 => ?_) -- bif n6 == (0 : Int) then decide ((↑v_4.fst : Int) > (0 : Int)) else false
        · -- yes
          simp at c6 -- n6 = (0 : Int) ∧ (0 : Nat) < v_4.fst
          -- k (AV.tup [AV.int IntKind.u64 (0 : Int), AV.int IntKind.i64 (0 : Int), AV.int IntKind.i64 (8 : Int)]) [] []
          have e : n6 = (((xs.getD v_4.fst 0).toNat : Nat) : Int) := by rw [q6, Int.toNat_natCast]
          have hr := h1.2.2.2
          rw [read_at xs v_4.fst v_4.snd (by omega), if_neg (by omega), if_pos (by omega), if_pos (by omega)] at hr
          exact hk 0 0 8 (by rw [← hr]; rfl) (by rw [← hr]; rfl) (by rw [← hr]; rfl) (by omega) (by omega) (.inr rfl)
        · -- no
          simp at c6 -- n6 = (0 : Int) → v_4.fst = (0 : Nat)
          intro n24
          intro q24 -- n24 = IntKind.i64.wrap ((↑v_4.fst : Int) + (1 : Int))
          rw [IntKind.wrap_i64] at q24
          intro ⟨l24, u24⟩ -- (-9223372036854775808 : Int) ≤ n24 ∧ n24 ≤ (9223372036854775807 : Int)
          -- k (AV.tup [AV.int IntKind.u64 n21, AV.int IntKind.i64 n24, AV.int IntKind.i64 (0 : Int)]) [] []
          have e : n6 = (((xs.getD v_4.fst 0).toNat : Nat) : Int) := by rw [q6, Int.toNat_natCast]
          have hr := h1.2.2.2
          have e7 := or7 v_4.snd (xs.getD v_4.fst 0).toNat v_4.fst n12 n15 n18 n21 (by omega) h1.2.1 (by omega) h1.2.2.1 (by omega) (by omega) q18 q21
          rw [read_at xs v_4.fst v_4.snd (by omega), if_neg (by omega), if_pos (by omega), if_neg (by omega)] at hr
          exact hk n21 n24 0 (by rw [← hr]; exact e7) (by rw [← hr]; show n24 = ((v_4.fst + 1 : Nat) : Int); omega) (by rw [← hr]; rfl) (by omega) (by omega) (.inl rfl)
      · -- no
        intro n27
        intro q27 -- n27 = IntKind.i64.wrap ((↑v_4.fst : Int) + (1 : Int))
        rw [IntKind.wrap_i64] at q27
        intro ⟨l27, u27⟩ -- (-9223372036854775808 : Int) ≤ n27 ∧ n27 ≤ (9223372036854775807 : Int)
        refine ⟨(n27.toNat, n21.toNat), ?_⟩
        refine ⟨by show n21 = (↑n21.toNat : Int); omega, ?_⟩ -- n21 = (↑n21.toNat : Int)
        refine ⟨by first | with_reducible rfl | rfl, ?_⟩ -- xs = xs
        refine ⟨by first | with_reducible rfl | rfl, ?_⟩ -- (↑xs.length : Int) = (↑xs.length : Int)
        refine ⟨by show n27 = (↑n27.toNat : Int); omega, ?_⟩ -- n27 = (↑n27.toNat : Int)
        refine ⟨?_, ?_⟩
        · -- left
          refine ⟨by show n27.toNat ≤ xs.length; omega, ?_⟩ -- n27.toNat ≤ xs.length
          refine ⟨by show n27.toNat ≤ (9 : Nat); omega, ?_⟩ -- n27.toNat ≤ (9 : Nat)
          have h7 : n21.toNat < (128 : Nat) ^ n27.toNat := by
            have e : n6 = (((xs.getD v_4.fst 0).toNat : Nat) : Int) := by rw [q6, Int.toNat_natCast]
            have hr := h1.2.2.2
            have e7 := or7 v_4.snd (xs.getD v_4.fst 0).toNat v_4.fst n12 n15 n18 n21 (by omega) h1.2.1 (by omega) h1.2.2.1 (by omega) (by omega) q18 q21
            have hb : (xs.getD v_4.fst 0).toNat % 128 * 128 ^ v_4.fst ≤ 127 * 128 ^ v_4.fst := Nat.mul_le_mul_right _ (by omega)
            have h9 := h1.2.2.1
            rw [e7, Int.toNat_natCast, show n27.toNat = v_4.fst + 1 by omega, Nat.pow_succ]
            omega
          refine ⟨h7, ?_⟩
          -- readG n27.toNat n21.toNat (List.drop n27.toNat xs) = readG (0 : Nat) (0 : Nat) xs
          have e : n6 = (((xs.getD v_4.fst 0).toNat : Nat) : Int) := by rw [q6, Int.toNat_natCast]
          have hr := h1.2.2.2
          have e7 := or7 v_4.snd (xs.getD v_4.fst 0).toNat v_4.fst n12 n15 n18 n21 (by omega) h1.2.1 (by omega) h1.2.2.1 (by omega) (by omega) q18 q21
          rw [read_at xs v_4.fst v_4.snd (by omega), if_neg (by omega), if_neg (by omega)] at hr
          rw [e7, Int.toNat_natCast, show n27.toNat = v_4.fst + 1 by omega]
          exact hr
        exact by show xs.length - n27.toNat < xs.length - v_4.fst; omega -- xs.length - n27.toNat < xs.length - v_4.fst
  · -- no
    -- k (AV.tup [AV.int IntKind.u64 (0 : Int), AV.int IntKind.i64 (0 : Int), AV.int IntKind.i64 (8 : Int)]) [] []
    have e : v_4.fst = xs.length := by omega
    have hr := h1.2.2.2
    rw [e, List.drop_length] at hr
    exact hk 0 0 8 (by rw [← hr]; rfl) (by rw [← hr]; rfl) (by rw [← hr]; rfl) (by omega) (by omega) (.inr rfl)

theorem read_ok : Holds Try.prog 18 readS := by
  refine fn_sound (env := mkEnv T0) (tab_ok T0_ok) Try.func18 Try.call18 fun args k h => ?_
  match args, h with
  | [.sl 0 xs], h => exact ⟨by kernel_rfl, readLoops xs, fun _ _ => none, .cast (by kernel_rfl) (read_vc xs h.1 k h.2)⟩
set_option maxHeartbeats 2000000 in
theorem same_vc (a : List UInt8) (b : List UInt8) (k : AV → List (Option Blk) → List Blk → Prop) (hk : ∀ (r : Bool), (r = true ↔ a = b) → k (AV.bool r) [] []) :
  (k (AV.bool ({ data := a.toArray : ByteArray }.data.toList == { data := b.toArray : ByteArray }.data.toList)) [] []) := by
  -- k (AV.bool ({ data := a.toArray : ByteArray }.data.toList == { data := b.toArray : ByteArray }.data.toList)) [] []
  exact hk _ ⟨fun h => by simpa using h, fun h => by simp [h]⟩

theorem same_ok : Holds Try.prog 21 sameS := by
  refine fn_sound (env := mkEnv T0) (tab_ok T0_ok) Try.func21 Try.call21 fun args k h => ?_
  match args, h with
  | [.sl 0 a, .sl 0 b], h => exact ⟨by kernel_rfl, fun _ _ => none, fun _ _ => none, .cast (by kernel_rfl) (same_vc a b k h)⟩
def T1 : Tab := (12, trueS) :: (13, smallS) :: (18, readS) :: (21, sameS) :: []
theorem T1_ok : TabOk Try.prog T1 := ⟨alive_ok, small_ok, read_ok, same_ok, trivial⟩
end Go.Proofs.Ytcccenipmefkiaa

