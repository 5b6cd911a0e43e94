import Derived.Test.YtpkfadgennejnaaLkM
namespace Go.Proofs.Ytpkfadgennejnaa
open Go Go.Eng Go.Rw Go.Lk Go.Proofs
set_option linter.unusedVariables false
set_option maxHeartbeats 2000000 in
theorem small_vc (n : Int) (n0 : (0 : Int) ≤ n) (n1 : n ≤ (18446744073709551615 : Int)) (k : AV → List (Option Blk) → List Blk → Prop) (hk : ∀ (ys : List UInt8) (q : Nat), ys = smallL n.toNat → ys.length = q → q ≤ (10 : Nat) → k (AV.row (0 : Nat) (0 : Nat) (0 : Nat) q) [] [Blk.row (0 : Nat) ys]) :
  (
   ∃ (v : Nat × Nat × List UInt8),
   (n = (↑v.fst : Int)) ∧
   ((0 : Nat) = (0 : Nat)) ∧
   ((0 : Nat) = v.snd.fst) ∧
   ([] = v.snd.snd) ∧
   (v.snd.snd.length = v.snd.fst) ∧
   (v.snd.fst < (10 : Nat)) ∧
   (v.fst < (2 : Nat) ^ ((64 : Nat) - (7 : Nat) * v.snd.fst)) ∧
   (v.snd.snd ++ smallF ((10 : Nat) - v.snd.fst) v.fst = smallL n.toNat)) ∧
  ∀ (v_1 : Nat × Nat × List UInt8),
  (v_1.snd.snd.length = v_1.snd.fst ∧ v_1.snd.fst < (10 : Nat) ∧ v_1.fst < (2 : Nat) ^ ((64 : Nat) - (7 : Nat) * v_1.snd.fst) ∧ v_1.snd.snd ++ smallF ((10 : Nat) - v_1.snd.fst) v_1.fst = smallL n.toNat) →
  br (decide ((↑v_1.fst : Int) > (127 : Int)))
   (∀ (n3 : Int),
    (n3 = IntKind.u8.wrap (↑v_1.fst : Int)) →
    ((0 : Int) ≤ n3 ∧ n3 ≤ (255 : Int)) →
    ∀ (n6 : Int),
    (n6 = bits BinOp.or IntKind.u8 n3 (128 : Int)) →
    ((0 : Int) ≤ n6 ∧ n6 ≤ (255 : Int)) →
    ((v_1.snd.fst + (1 : Nat)) * (1 : Nat) ≤ (140737488355328 : Nat)) ∧
    ∀ (z9 : List UInt8),
    (z9 = List.take v_1.snd.fst v_1.snd.snd ++ List.take (1 : Nat) (List.drop (0 : Nat) [UInt8.ofNat n6.toNat])) →
    ((0 : Int) ≤ (7 : Int)) ∧
    ∀ (n11 : Int),
    (n11 = (↑v_1.fst : Int).fdiv ((2 : Int) ^ min (Int.toNat (7 : Int)) IntKind.u64.bits)) →
    ((0 : Int) ≤ n11 ∧ n11 ≤ (18446744073709551615 : Int)) →
    ∃ (v' : Nat × Nat × List UInt8),
    (n11 = (↑v'.fst : Int)) ∧
    ((0 : Nat) = (0 : Nat)) ∧
    (v_1.snd.fst + (1 : Nat) = v'.snd.fst) ∧
    (z9 = v'.snd.snd) ∧
    (
     (v'.snd.snd.length = v'.snd.fst) ∧
     (v'.snd.fst < (10 : Nat)) ∧
     (v'.fst < (2 : Nat) ^ ((64 : Nat) - (7 : Nat) * v'.snd.fst)) ∧
     (v'.snd.snd ++ smallF ((10 : Nat) - v'.snd.fst) v'.fst = smallL n.toNat)) ∧
    ((10 : Nat) - v'.snd.fst < (10 : Nat) - v_1.snd.fst))
   (∀ (n14 : Int),
    (n14 = IntKind.u8.wrap (↑v_1.fst : Int)) →
    ((0 : Int) ≤ n14 ∧ n14 ≤ (255 : Int)) →
    ((v_1.snd.fst + (1 : Nat)) * (1 : Nat) ≤ (140737488355328 : Nat)) ∧
    ∀ (z17 : List UInt8),
    (z17 = List.take v_1.snd.fst v_1.snd.snd ++ List.take (1 : Nat) (List.drop (0 : Nat) [UInt8.ofNat n14.toNat])) →
    (k (AV.row (0 : Nat) (0 : Nat) (0 : Nat) (v_1.snd.fst + (1 : Nat))) [] [Blk.row (0 : Nat) z17])) := by
  refine ⟨?_, ?_⟩
  · -- left
    refine ⟨(n.toNat, (0 : Nat), []), ?_⟩
    refine ⟨by show n = (↑n.toNat : Int); omega, ?_⟩ -- n = (↑n.toNat : Int)
    refine ⟨by first | with_reducible rfl | rfl, ?_⟩ -- (0 : Nat) = (0 : Nat)
    refine ⟨by first | with_reducible rfl | rfl, ?_⟩ -- (0 : Nat) = (0 : Nat)
    refine ⟨by first | with_reducible rfl | rfl, ?_⟩ -- [] = []
    refine ⟨by first | with_reducible rfl | rfl, ?_⟩ -- (0 : Nat) = (0 : Nat)
    refine ⟨by show (0 : Nat) < (10 : Nat); omega, ?_⟩ -- (0 : Nat) < (10 : Nat)
    refine ⟨by show n.toNat < (2 : Nat) ^ ((64 : Nat) - (7 : Nat) * (0 : Nat)); omega, ?_⟩ -- n.toNat < (2 : Nat) ^ ((64 : Nat) - (7 : Nat) * (0 : Nat))
    exact by rfl -- [] ++ smallF ((10 : Nat) - (0 : Nat)) n.toNat = smallL n.toNat
  intro v_1
  intro h1 -- v_1.snd.snd.length = v_1.snd.fst ∧ v_1.snd.fst < (10 : Nat) ∧ v_1.fst < (2 : Nat) ^ ((64 : Nat) - (7 : Nat) * v_1.snd.fst) ∧ v_1.snd.snd ++ smallF ((10 : Nat) - v_1.snd.fst) v_1.fst = smallL n.toNat
  refine brd (fun c2 => ?_) (fun c2 => ?_) -- decide ((↑v_1.fst : Int) > (127 : Int))
  · -- yes
    intro n3
    intro q3 -- n3 = IntKind.u8.wrap (↑v_1.fst : Int)
    rw [IntKind.wrap_u8] at q3
    intro ⟨l3, u3⟩ -- (0 : Int) ≤ n3 ∧ n3 ≤ (255 : Int)
    intro n6
    intro q6 -- n6 = bits BinOp.or IntKind.u8 n3 (128 : Int)
    intro ⟨l6, u6⟩ -- (0 : Int) ≤ n6 ∧ n6 ≤ (255 : Int)
    refine ⟨by first | omega | (dsimp only; omega), ?_⟩ -- (v_1.snd.fst + (1 : Nat)) * (1 : Nat) ≤ (140737488355328 : Nat)
    intro z9
    intro qz9 -- z9 = List.take v_1.snd.fst v_1.snd.snd ++ List.take (1 : Nat) (List.drop (0 : Nat) [UInt8.ofNat n6.toNat])
    refine ⟨by first | omega | (dsimp only; omega), ?_⟩ -- (0 : Int) ≤ (7 : Int)
    intro n11
    intro q11 -- n11 = (↑v_1.fst : Int).fdiv ((2 : Int) ^ min (Int.toNat (7 : Int)) IntKind.u64.bits)
    rw [show (2 : Int) ^ min (Int.toNat (7 : Int)) IntKind.u64.bits = 128 from rfl, Int.fdiv_eq_ediv_of_nonneg _ (by decide)] at q11
    intro ⟨l11, u11⟩ -- (0 : Int) ≤ n11 ∧ n11 ≤ (18446744073709551615 : Int)
    refine ⟨(n11.toNat, v_1.snd.fst + (1 : Nat), z9), ?_⟩
    refine ⟨by show n11 = (↑n11.toNat : Int); omega, ?_⟩ -- n11 = (↑n11.toNat : Int)
    refine ⟨by first | with_reducible rfl | rfl, ?_⟩ -- (0 : Nat) = (0 : Nat)
    refine ⟨by first | with_reducible rfl | rfl, ?_⟩ -- v_1.snd.fst + (1 : Nat) = v_1.snd.fst + (1 : Nat)
    refine ⟨by first | with_reducible rfl | rfl, ?_⟩ -- z9 = z9
    refine ⟨?_, ?_⟩
    · -- left
      have h3 : z9.length = v_1.snd.fst + (1 : Nat) := by
        rw [qz9]; simp; omega
      refine ⟨h3, ?_⟩
      have h4 : v_1.snd.fst + (1 : Nat) < (10 : Nat) := by
        have := (small_step v_1.fst v_1.snd.fst h1.2.2.1 (by omega) h1.2.1).1
        omega
      refine ⟨h4, ?_⟩
      have h5 : n11.toNat < (2 : Nat) ^ ((64 : Nat) - (7 : Nat) * (v_1.snd.fst + (1 : Nat))) := by
        have := (small_step v_1.fst v_1.snd.fst h1.2.2.1 (by omega) h1.2.1).2
        have e : n11.toNat = v_1.fst / 128 := by omega
        rw [e]; exact this
      refine ⟨h5, ?_⟩
      -- z9 ++ smallF ((10 : Nat) - (v_1.snd.fst + (1 : Nat))) n11.toNat = smallL n.toNat
      have e5 : n11.toNat = v_1.fst / 128 := by omega
      have e3 := or128 v_1.fst n3 n6 q3 q6
      rw [← h1.2.2.2, e5, qz9, e3, List.take_of_length_le (by omega)]
      have e : 10 - v_1.snd.fst = (10 - (v_1.snd.fst + 1)) + 1 := by omega
      rw [e]
      have hF : smallF (10 - (v_1.snd.fst + 1) + 1) v_1.fst = UInt8.ofNat (v_1.fst % 128 + 128) :: smallF (10 - (v_1.snd.fst + 1)) (v_1.fst / 128) := by
        rw [smallF, if_neg (by omega)]
      rw [hF]
      simp
    exact by show (10 : Nat) - (v_1.snd.fst + (1 : Nat)) < (10 : Nat) - v_1.snd.fst; omega -- (10 : Nat) - (v_1.snd.fst + (1 : Nat)) < (10 : Nat) - v_1.snd.fst
  · -- no
    intro n14
    intro q14 -- n14 = IntKind.u8.wrap (↑v_1.fst : Int)
    rw [IntKind.wrap_u8] at q14
    intro ⟨l14, u14⟩ -- (0 : Int) ≤ n14 ∧ n14 ≤ (255 : Int)
    refine ⟨by first | omega | (dsimp only; omega), ?_⟩ -- (v_1.snd.fst + (1 : Nat)) * (1 : Nat) ≤ (140737488355328 : Nat)
    intro z17
    intro qz17 -- z17 = List.take v_1.snd.fst v_1.snd.snd ++ List.take (1 : Nat) (List.drop (0 : Nat) [UInt8.ofNat n14.toNat])
    -- k (AV.row (0 : Nat) (0 : Nat) (0 : Nat) (v_1.snd.fst + (1 : Nat))) [] [Blk.row (0 : Nat) z17]
    have e : 10 - v_1.snd.fst = (9 - v_1.snd.fst) + 1 := by omega
    have hF : smallF (10 - v_1.snd.fst) v_1.fst = [UInt8.ofNat v_1.fst] := by
      rw [e, smallF, if_pos (by omega)]
    have e6 : n14.toNat = v_1.fst := by omega
    exact hk z17 (v_1.snd.fst + 1) (by rw [qz17, ← h1.2.2.2, hF, e6, List.take_of_length_le (by omega)]; simp) (by rw [qz17]; simp; omega) (by omega)

theorem small_ok : Holds Try.prog 47 smallS := by
  refine fn_sound (env := mkEnv T0) (tab_ok T0_ok) Try.func47 Try.call47 fun args k h => ?_
  match args, h with
  | [.int .u64 n], h => exact ⟨by kernel_rfl, smallLoops n, fun _ _ => none, .cast (by kernel_rfl) (small_vc n h.1.1 h.1.2 k h.2)⟩
set_option maxHeartbeats 2000000 in
theorem read_vc (xs : List UInt8) (hxs : xs.length ≤ (1000000 : Nat)) (k : AV → List (Option Blk) → List Blk → Prop) (hk : ∀ (a b c : Int), a = (↑(readG (0 : Nat) (0 : Nat) xs).fst : Int) → b = (↑(readG (0 : Nat) (0 : Nat) xs).snd.fst : Int) → c = (↑(readG (0 : Nat) (0 : Nat) xs).snd.snd : Int) → (0 : Int) ≤ a ∧ a ≤ (18446744073709551615 : Int) → (0 : Int) ≤ b ∧ b ≤ (10 : Int) → c = (0 : Int) ∨ c = (8 : Int) → k (AV.tup [AV.int IntKind.u64 a, AV.int IntKind.i64 b, AV.int IntKind.i64 c]) [] []) :
  ∀ (n1 : Int),
  (n1 = (↑xs.length : Int)) →
  ((-9223372036854775808 : Int) ≤ n1 ∧ n1 ≤ (9223372036854775807 : Int)) →
  (
   ∃ (v : Nat × Nat),
   ((0 : Int) = (↑v.snd : Int)) ∧
   (xs = xs) ∧
   (n1 = (↑xs.length : Int)) ∧
   ((0 : Int) = (↑v.fst : Int)) ∧
   (v.fst ≤ xs.length) ∧
   (v.fst ≤ (9 : Nat)) ∧
   (v.snd < (128 : Nat) ^ v.fst) ∧
   (readG v.fst v.snd (List.drop v.fst xs) = readG (0 : Nat) (0 : Nat) xs)) ∧
  ∀ (v_4 : Nat × Nat),
  (v_4.fst ≤ xs.length ∧ v_4.fst ≤ (9 : Nat) ∧ v_4.snd < (128 : Nat) ^ v_4.fst ∧ readG v_4.fst v_4.snd (List.drop v_4.fst xs) = readG (0 : Nat) (0 : Nat) xs) →
  br (decide ((↑v_4.fst : Int) < (↑xs.length : Int)))
   (((0 : Int) ≤ (↑v_4.fst : Int)) ∧
    ((↑v_4.fst : Int) < (↑xs.length : Int)) ∧
    ∀ (n6 : Int),
    (n6 = (↑(xs.getD (↑v_4.fst : Int).toNat (0 : UInt8)).toNat : Int)) →
    ((0 : Int) ≤ n6 ∧ n6 ≤ (255 : Int)) →
    br (bif (↑v_4.fst : Int) == (9 : Int) then decide (n6 > (1 : Int)) else false)
     ((k (AV.tup [AV.int IntKind.u64 (0 : Int), AV.int IntKind.i64 (0 : Int), AV.int IntKind.i64 (8 : Int)]) [] []))
     (∀ (n9 : Int),
      (n9 = bits BinOp.and IntKind.u8 n6 (127 : Int)) →
      ((0 : Int) ≤ n9 ∧ n9 ≤ (255 : Int)) →
      ∀ (n12 : Int),
      (n12 = IntKind.u64.wrap n9) →
      ((0 : Int) ≤ n12 ∧ n12 ≤ (18446744073709551615 : Int)) →
      ∀ (n15 : Int),
      (n15 = IntKind.i64.wrap ((7 : Int) * (↑v_4.fst : Int))) →
      ((-9223372036854775808 : Int) ≤ n15 ∧ n15 ≤ (9223372036854775807 : Int)) →
      ((0 : Int) ≤ n15) ∧
      ∀ (n18 : Int),
      (n18 = IntKind.u64.wrap (n12 * (2 : Int) ^ min n15.toNat IntKind.u64.bits)) →
      ((0 : Int) ≤ n18 ∧ n18 ≤ (18446744073709551615 : Int)) →
      ∀ (n21 : Int),
      (n21 = bits BinOp.or IntKind.u64 (↑v_4.snd : Int) n18) →
      ((0 : Int) ≤ n21 ∧ n21 ≤ (18446744073709551615 : Int)) →
      br (decide (n6 < (128 : Int)))
       (br (bif n6 == (0 : Int) then decide ((↑v_4.fst : Int) > (0 : Int)) else false)
         ((k (AV.tup [AV.int IntKind.u64 (0 : Int), AV.int IntKind.i64 (0 : Int), AV.int IntKind.i64 (8 : Int)]) [] []))
         (∀ (n24 : Int),
          (n24 = IntKind.i64.wrap ((↑v_4.fst : Int) + (1 : Int))) →
          ((-9223372036854775808 : Int) ≤ n24 ∧ n24 ≤ (9223372036854775807 : Int)) →
          (k (AV.tup [AV.int IntKind.u64 n21, AV.int IntKind.i64 n24, AV.int IntKind.i64 (0 : Int)]) [] [])))
       (∀ (n27 : Int),
        (n27 = IntKind.i64.wrap ((↑v_4.fst : Int) + (1 : Int))) →
        ((-9223372036854775808 : Int) ≤ n27 ∧ n27 ≤ (9223372036854775807 : Int)) →
        ∃ (v' : Nat × Nat),
        (n21 = (↑v'.snd : Int)) ∧
        (xs = xs) ∧
        ((↑xs.length : Int) = (↑xs.length : Int)) ∧
        (n27 = (↑v'.fst : Int)) ∧
        (
         (v'.fst ≤ xs.length) ∧
         (v'.fst ≤ (9 : Nat)) ∧
         (v'.snd < (128 : Nat) ^ v'.fst) ∧
         (readG v'.fst v'.snd (List.drop v'.fst xs) = readG (0 : Nat) (0 : Nat) xs)) ∧
        (xs.length - v'.fst < xs.length - v_4.fst))))
   ((k (AV.tup [AV.int IntKind.u64 (0 : Int), AV.int IntKind.i64 (0 : Int), AV.int IntKind.i64 (8 : Int)]) [] [])) := by
  intro n1
  intro q1 -- n1 = (↑xs.length : Int)
  intro ⟨l1, u1⟩ -- (-9223372036854775808 : Int) ≤ n1 ∧ n1 ≤ (9223372036854775807 : Int)
  refine ⟨?_, ?_⟩
  · -- left
    refine ⟨(Int.toNat (0 : Int), Int.toNat (0 : Int)), ?_⟩
    refine ⟨by show (0 : Int) = (↑(Int.toNat (0 : Int)) : Int); omega, ?_⟩ -- (0 : Int) = (↑(Int.toNat (0 : Int)) : Int)
    refine ⟨by first | with_reducible rfl | rfl, ?_⟩ -- xs = xs
    refine ⟨by show n1 = (↑xs.length : Int); assumption, ?_⟩ -- n1 = (↑xs.length : Int)
    refine ⟨by show (0 : Int) = (↑(Int.toNat (0 : Int)) : Int); omega, ?_⟩ -- (0 : Int) = (↑(Int.toNat (0 : Int)) : Int)
    refine ⟨by show Int.toNat (0 : Int) ≤ xs.length; omega, ?_⟩ -- Int.toNat (0 : Int) ≤ xs.length
    refine ⟨by show Int.toNat (0 : Int) ≤ (9 : Nat); omega, ?_⟩ -- Int.toNat (0 : Int) ≤ (9 : Nat)
    refine ⟨by show Int.toNat (0 : Int) < (128 : Nat) ^ Int.toNat (0 : Int); decide, ?_⟩ -- Int.toNat (0 : Int) < (128 : Nat) ^ Int.toNat (0 : Int)
    exact by rfl -- readG (Int.toNat (0 : Int)) (Int.toNat (0 : Int)) (List.drop (Int.toNat (0 : Int)) xs) = readG (0 : Nat) (0 : Nat) xs
  intro v_4
  intro h1 -- v_4.fst ≤ xs.length ∧ v_4.fst ≤ (9 : Nat) ∧ v_4.snd < (128 : Nat) ^ v_4.fst ∧ readG v_4.fst v_4.snd (List.drop v_4.fst xs) = readG (0 : Nat) (0 : Nat) xs
  refine brd (fun c2 => ?_) (fun c2 => ?_) -- decide ((↑v_4.fst : Int) < (↑xs.length : Int))
  · -- yes
    refine ⟨by first | omega | (dsimp only; omega), ?_⟩ -- (0 : Int) ≤ (↑v_4.fst : Int)
    refine ⟨by assumption, ?_⟩ -- (↑v_4.fst : Int) < (↑xs.length : Int)
    intro n6
    intro q6 -- n6 = (↑(xs.getD (↑v_4.fst : Int).toNat (0 : UInt8)).toNat : Int)
    intro ⟨l6, u6⟩ -- (0 : Int) ≤ n6 ∧ n6 ≤ (255 : Int)
    refine br_intro (fun c3 => ?_) (fun c3 => ?_) -- bif (↑v_4.fst : Int) == (9 : Int) then decide (n6 > (1 : Int)) else false
    · -- yes
      simp at c3 -- (↑v_4.fst : Int) = (9 : Int) ∧ (1 : Int) < n6
      -- k (AV.tup [AV.int IntKind.u64 (0 : Int), AV.int IntKind.i64 (0 : Int), AV.int IntKind.i64 (8 : Int)]) [] []
      have e : n6 = (((xs.getD v_4.fst 0).toNat : Nat) : Int) := by rw [q6, Int.toNat_natCast]
      have hr := h1.2.2.2
      rw [read_at xs v_4.fst v_4.snd (by omega), if_pos (by omega)] at hr
      exact hk 0 0 8 (by rw [← hr]; rfl) (by rw [← hr]; rfl) (by rw [← hr]; rfl) (by omega) (by omega) (.inr rfl)
    · -- no
      simp at c3 -- (↑v_4.fst : Int) = (9 : Int) → n6 ≤ (1 : Int)
      intro n9
      intro q9 -- n9 = bits BinOp.and IntKind.u8 n6 (127 : Int)
      rw [and_u8 7 (by decide) 127 128 (by decide) (by decide) _ (by omega) (by omega)] at q9
      intro ⟨l9, u9⟩ -- (0 : Int) ≤ n9 ∧ n9 ≤ (255 : Int)
      intro n12
      intro q12 -- n12 = IntKind.u64.wrap n9
      rw [IntKind.wrap_u64] at q12
      intro ⟨l12, u12⟩ -- (0 : Int) ≤ n12 ∧ n12 ≤ (18446744073709551615 : Int)
      intro n15
      intro q15 -- n15 = IntKind.i64.wrap ((7 : Int) * (↑v_4.fst : Int))
      rw [IntKind.wrap_i64] at q15
      intro ⟨l15, u15⟩ -- (-9223372036854775808 : Int) ≤ n15 ∧ n15 ≤ (9223372036854775807 : Int)
      have h4 : (0 : Int) ≤ n15 := by
        first | omega | (have e := Int.emod_eq_of_lt (a := 7 * (v_4.fst : Int) + 9223372036854775808) (b := 18446744073709551616) (by omega) (by omega); omega)
      refine ⟨h4, ?_⟩
      intro n18
      intro q18 -- n18 = IntKind.u64.wrap (n12 * (2 : Int) ^ min n15.toNat IntKind.u64.bits)
      rw [IntKind.wrap_u64] at q18
      intro ⟨l18, u18⟩ -- (0 : Int) ≤ n18 ∧ n18 ≤ (18446744073709551615 : Int)
      intro n21
      intro q21 -- n21 = bits BinOp.or IntKind.u64 (↑v_4.snd : Int) n18
      intro ⟨l21, u21⟩ -- (0 : Int) ≤ n21 ∧ n21 ≤ (18446744073709551615 : Int)
      refine brd (fun c5 => ?_) (fun c5 => ?_) -- decide (n6 < (128 : Int))
      · -- yes
        refine br_intro (fun c6 => ?_) (fun c6 => ?_) -- bif n6 == (0 : Int) then decide ((↑v_4.fst : Int) > (0 : Int)) else false
        · -- yes
          simp at c6 -- n6 = (0 : Int) ∧ (0 : Nat) < v_4.fst
          -- k (AV.tup [AV.int IntKind.u64 (0 : Int), AV.int IntKind.i64 (0 : Int), AV.int IntKind.i64 (8 : Int)]) [] []
          have e : n6 = (((xs.getD v_4.fst 0).toNat : Nat) : Int) := by rw [q6, Int.toNat_natCast]
          have hr := h1.2.2.2
          rw [read_at xs v_4.fst v_4.snd (by omega), if_neg (by omega), if_pos (by omega), if_pos (by omega)] at hr
          exact hk 0 0 8 (by rw [← hr]; rfl) (by rw [← hr]; rfl) (by rw [← hr]; rfl) (by omega) (by omega) (.inr rfl)
        · -- no
          simp at c6 -- n6 = (0 : Int) → v_4.fst = (0 : Nat)
          intro n24
          intro q24 -- n24 = IntKind.i64.wrap ((↑v_4.fst : Int) + (1 : Int))
          rw [IntKind.wrap_i64] at q24
          intro ⟨l24, u24⟩ -- (-9223372036854775808 : Int) ≤ n24 ∧ n24 ≤ (9223372036854775807 : Int)
          -- k (AV.tup [AV.int IntKind.u64 n21, AV.int IntKind.i64 n24, AV.int IntKind.i64 (0 : Int)]) [] []
          have e : n6 = (((xs.getD v_4.fst 0).toNat : Nat) : Int) := by rw [q6, Int.toNat_natCast]
          have hr := h1.2.2.2
          have e7 := or7 v_4.snd (xs.getD v_4.fst 0).toNat v_4.fst n12 n15 n18 n21 (by omega) h1.2.1 (by omega) h1.2.2.1 (by omega) (by omega) q18 q21
          rw [read_at xs v_4.fst v_4.snd (by omega), if_neg (by omega), if_pos (by omega), if_neg (by omega)] at hr
          exact hk n21 n24 0 (by rw [← hr]; exact e7) (by rw [← hr]; show n24 = ((v_4.fst + 1 : Nat) : Int); omega) (by rw [← hr]; rfl) (by omega) (by omega) (.inl rfl)
      · -- no
        intro n27
        intro q27 -- n27 = IntKind.i64.wrap ((↑v_4.fst : Int) + (1 : Int))
        rw [IntKind.wrap_i64] at q27
        intro ⟨l27, u27⟩ -- (-9223372036854775808 : Int) ≤ n27 ∧ n27 ≤ (9223372036854775807 : Int)
        refine ⟨(n27.toNat, n21.toNat), ?_⟩
        refine ⟨by show n21 = (↑n21.toNat : Int); omega, ?_⟩ -- n21 = (↑n21.toNat : Int)
        refine ⟨by first | with_reducible rfl | rfl, ?_⟩ -- xs = xs
        refine ⟨by first | with_reducible rfl | rfl, ?_⟩ -- (↑xs.length : Int) = (↑xs.length : Int)
        refine ⟨by show n27 = (↑n27.toNat : Int); omega, ?_⟩ -- n27 = (↑n27.toNat : Int)
        refine ⟨?_, ?_⟩
        · -- left
          refine ⟨by show n27.toNat ≤ xs.length; omega, ?_⟩ -- n27.toNat ≤ xs.length
          refine ⟨by show n27.toNat ≤ (9 : Nat); omega, ?_⟩ -- n27.toNat ≤ (9 : Nat)
          have h7 : n21.toNat < (128 : Nat) ^ n27.toNat := by
            have e : n6 = (((xs.getD v_4.fst 0).toNat : Nat) : Int) := by rw [q6, Int.toNat_natCast]
            have hr := h1.2.2.2
            have e7 := or7 v_4.snd (xs.getD v_4.fst 0).toNat v_4.fst n12 n15 n18 n21 (by omega) h1.2.1 (by omega) h1.2.2.1 (by omega) (by omega) q18 q21
            have hb : (xs.getD v_4.fst 0).toNat % 128 * 128 ^ v_4.fst ≤ 127 * 128 ^ v_4.fst := Nat.mul_le_mul_right _ (by omega)
            have h9 := h1.2.2.1
            rw [e7, Int.toNat_natCast, show n27.toNat = v_4.fst + 1 by omega, Nat.pow_succ]
            omega
          refine ⟨h7, ?_⟩
          -- readG n27.toNat n21.toNat (List.drop n27.toNat xs) = readG (0 : Nat) (0 : Nat) xs
          have e : n6 = (((xs.getD v_4.fst 0).toNat : Nat) : Int) := by rw [q6, Int.toNat_natCast]
          have hr := h1.2.2.2
          have e7 := or7 v_4.snd (xs.getD v_4.fst 0).toNat v_4.fst n12 n15 n18 n21 (by omega) h1.2.1 (by omega) h1.2.2.1 (by omega) (by omega) q18 q21
          rw [read_at xs v_4.fst v_4.snd (by omega), if_neg (by omega), if_neg (by omega)] at hr
          rw [e7, Int.toNat_natCast, show n27.toNat = v_4.fst + 1 by omega]
          exact hr
        exact by show xs.length - n27.toNat < xs.length - v_4.fst; omega -- xs.length - n27.toNat < xs.length - v_4.fst
  · -- no
    -- k (AV.tup [AV.int IntKind.u64 (0 : Int), AV.int IntKind.i64 (0 : Int), AV.int IntKind.i64 (8 : Int)]) [] []
    have e : v_4.fst = xs.length := by omega
    have hr := h1.2.2.2
    rw [e, List.drop_length] at hr
    exact hk 0 0 8 (by rw [← hr]; rfl) (by rw [← hr]; rfl) (by rw [← hr]; rfl) (by omega) (by omega) (.inr rfl)

theorem read_ok : Holds Try.prog 50 readS := by
  refine fn_sound (env := mkEnv T0) (tab_ok T0_ok) Try.func50 Try.call50 fun args k h => ?_
  match args, h with
  | [.sl 0 xs], h => exact ⟨by kernel_rfl, readLoops xs, fun _ _ => none, .cast (by kernel_rfl) (read_vc xs h.1 k h.2)⟩
set_option maxHeartbeats 2000000 in
theorem rsmall_vc (n : Int) (n0 : (0 : Int) ≤ n) (n1 : n ≤ (18446744073709551615 : Int)) (k : AV → List (Option Blk) → List Blk → Prop) (hk : ∀ (ys : List UInt8) (q : Nat), ys = smallL n.toNat → ys.length = q → q ≤ (10 : Nat) → k (AV.row (0 : Nat) (0 : Nat) (0 : Nat) q) [] [Blk.row (0 : Nat) ys]) :
  (
   ∃ (v : Nat × Nat × List UInt8),
   (n = (↑v.fst : Int)) ∧
   ((0 : Nat) = (0 : Nat)) ∧
   ((0 : Nat) = v.snd.fst) ∧
   ([] = v.snd.snd) ∧
   (v.snd.snd.length = v.snd.fst) ∧
   (v.snd.fst < (10 : Nat)) ∧
   (v.fst < (2 : Nat) ^ ((64 : Nat) - (7 : Nat) * v.snd.fst)) ∧
   (v.snd.snd ++ smallF ((10 : Nat) - v.snd.fst) v.fst = smallL n.toNat)) ∧
  ∀ (v_1 : Nat × Nat × List UInt8),
  (v_1.snd.snd.length = v_1.snd.fst ∧ v_1.snd.fst < (10 : Nat) ∧ v_1.fst < (2 : Nat) ^ ((64 : Nat) - (7 : Nat) * v_1.snd.fst) ∧ v_1.snd.snd ++ smallF ((10 : Nat) - v_1.snd.fst) v_1.fst = smallL n.toNat) →
  br (decide ((↑v_1.fst : Int) ≥ (128 : Int)))
   (((128 : Int) ≠ (0 : Int)) ∧
    ∀ (n3 : Int),
    (n3 = (↑v_1.fst : Int).tmod (128 : Int)) →
    ((0 : Int) ≤ n3 ∧ n3 ≤ (18446744073709551615 : Int)) →
    ∀ (n6 : Int),
    (n6 = IntKind.u8.wrap n3) →
    ((0 : Int) ≤ n6 ∧ n6 ≤ (255 : Int)) →
    ∀ (n9 : Int),
    (n9 = IntKind.u8.wrap (n6 + (128 : Int))) →
    ((0 : Int) ≤ n9 ∧ n9 ≤ (255 : Int)) →
    ((v_1.snd.fst + (1 : Nat)) * (1 : Nat) ≤ (140737488355328 : Nat)) ∧
    ∀ (z12 : List UInt8),
    (z12 = List.take v_1.snd.fst v_1.snd.snd ++ List.take (1 : Nat) (List.drop (0 : Nat) [UInt8.ofNat n9.toNat])) →
    ((128 : Int) ≠ (0 : Int)) ∧
    ∀ (n14 : Int),
    (n14 = IntKind.u64.wrap ((↑v_1.fst : Int).tdiv (128 : Int))) →
    ((0 : Int) ≤ n14 ∧ n14 ≤ (18446744073709551615 : Int)) →
    ∃ (v' : Nat × Nat × List UInt8),
    (n14 = (↑v'.fst : Int)) ∧
    ((0 : Nat) = (0 : Nat)) ∧
    (v_1.snd.fst + (1 : Nat) = v'.snd.fst) ∧
    (z12 = v'.snd.snd) ∧
    (
     (v'.snd.snd.length = v'.snd.fst) ∧
     (v'.snd.fst < (10 : Nat)) ∧
     (v'.fst < (2 : Nat) ^ ((64 : Nat) - (7 : Nat) * v'.snd.fst)) ∧
     (v'.snd.snd ++ smallF ((10 : Nat) - v'.snd.fst) v'.fst = smallL n.toNat)) ∧
    ((10 : Nat) - v'.snd.fst < (10 : Nat) - v_1.snd.fst))
   (∀ (n17 : Int),
    (n17 = IntKind.u8.wrap (↑v_1.fst : Int)) →
    ((0 : Int) ≤ n17 ∧ n17 ≤ (255 : Int)) →
    ((v_1.snd.fst + (1 : Nat)) * (1 : Nat) ≤ (140737488355328 : Nat)) ∧
    ∀ (z20 : List UInt8),
    (z20 = List.take v_1.snd.fst v_1.snd.snd ++ List.take (1 : Nat) (List.drop (0 : Nat) [UInt8.ofNat n17.toNat])) →
    (k (AV.row (0 : Nat) (0 : Nat) (0 : Nat) (v_1.snd.fst + (1 : Nat))) [] [Blk.row (0 : Nat) z20])) := by
  refine ⟨?_, ?_⟩
  · -- left
    refine ⟨(n.toNat, (0 : Nat), []), ?_⟩
    refine ⟨by show n = (↑n.toNat : Int); omega, ?_⟩ -- n = (↑n.toNat : Int)
    refine ⟨by first | with_reducible rfl | rfl, ?_⟩ -- (0 : Nat) = (0 : Nat)
    refine ⟨by first | with_reducible rfl | rfl, ?_⟩ -- (0 : Nat) = (0 : Nat)
    refine ⟨by first | with_reducible rfl | rfl, ?_⟩ -- [] = []
    refine ⟨by first | with_reducible rfl | rfl, ?_⟩ -- (0 : Nat) = (0 : Nat)
    refine ⟨by show (0 : Nat) < (10 : Nat); omega, ?_⟩ -- (0 : Nat) < (10 : Nat)
    refine ⟨by show n.toNat < (2 : Nat) ^ ((64 : Nat) - (7 : Nat) * (0 : Nat)); omega, ?_⟩ -- n.toNat < (2 : Nat) ^ ((64 : Nat) - (7 : Nat) * (0 : Nat))
    exact by rfl -- [] ++ smallF ((10 : Nat) - (0 : Nat)) n.toNat = smallL n.toNat
  intro v_1
  intro h1 -- v_1.snd.snd.length = v_1.snd.fst ∧ v_1.snd.fst < (10 : Nat) ∧ v_1.fst < (2 : Nat) ^ ((64 : Nat) - (7 : Nat) * v_1.snd.fst) ∧ v_1.snd.snd ++ smallF ((10 : Nat) - v_1.snd.fst) v_1.fst = smallL n.toNat
  refine brd (fun c2 => ?_) (fun c2 => ?_) -- decide ((↑v_1.fst : Int) ≥ (128 : Int))
  · -- yes
    refine ⟨by first | omega | (dsimp only; omega), ?_⟩ -- (128 : Int) ≠ (0 : Int)
    intro n3
    intro q3 -- n3 = (↑v_1.fst : Int).tmod (128 : Int)
    rw [Int.tmod_eq_emod_of_nonneg (by omega)] at q3
    intro ⟨l3, u3⟩ -- (0 : Int) ≤ n3 ∧ n3 ≤ (18446744073709551615 : Int)
    intro n6
    intro q6 -- n6 = IntKind.u8.wrap n3
    rw [IntKind.wrap_u8] at q6
    intro ⟨l6, u6⟩ -- (0 : Int) ≤ n6 ∧ n6 ≤ (255 : Int)
    intro n9
    intro q9 -- n9 = IntKind.u8.wrap (n6 + (128 : Int))
    rw [IntKind.wrap_u8] at q9
    intro ⟨l9, u9⟩ -- (0 : Int) ≤ n9 ∧ n9 ≤ (255 : Int)
    refine ⟨by first | omega | (dsimp only; omega), ?_⟩ -- (v_1.snd.fst + (1 : Nat)) * (1 : Nat) ≤ (140737488355328 : Nat)
    intro z12
    intro qz12 -- z12 = List.take v_1.snd.fst v_1.snd.snd ++ List.take (1 : Nat) (List.drop (0 : Nat) [UInt8.ofNat n9.toNat])
    refine ⟨by first | omega | (dsimp only; omega), ?_⟩ -- (128 : Int) ≠ (0 : Int)
    intro n14
    intro q14 -- n14 = IntKind.u64.wrap ((↑v_1.fst : Int).tdiv (128 : Int))
    rw [Int.tdiv_eq_ediv_of_nonneg (by omega)] at q14
    rw [IntKind.wrap_u64] at q14
    intro ⟨l14, u14⟩ -- (0 : Int) ≤ n14 ∧ n14 ≤ (18446744073709551615 : Int)
    refine ⟨(n14.toNat, v_1.snd.fst + (1 : Nat), z12), ?_⟩
    refine ⟨by show n14 = (↑n14.toNat : Int); omega, ?_⟩ -- n14 = (↑n14.toNat : Int)
    refine ⟨by first | with_reducible rfl | rfl, ?_⟩ -- (0 : Nat) = (0 : Nat)
    refine ⟨by first | with_reducible rfl | rfl, ?_⟩ -- v_1.snd.fst + (1 : Nat) = v_1.snd.fst + (1 : Nat)
    refine ⟨by first | with_reducible rfl | rfl, ?_⟩ -- z12 = z12
    refine ⟨?_, ?_⟩
    · -- left
      have h3 : z12.length = v_1.snd.fst + (1 : Nat) := by
        rw [qz12]; simp; omega
      refine ⟨h3, ?_⟩
      have h4 : v_1.snd.fst + (1 : Nat) < (10 : Nat) := by
        have := (small_step v_1.fst v_1.snd.fst h1.2.2.1 (by omega) h1.2.1).1
        omega
      refine ⟨h4, ?_⟩
      have h5 : n14.toNat < (2 : Nat) ^ ((64 : Nat) - (7 : Nat) * (v_1.snd.fst + (1 : Nat))) := by
        have pw : 2 ^ (64 - 7 * v_1.snd.fst) ≤ 2 ^ 64 := Nat.pow_le_pow_right (by decide) (by omega)
        have pw : 2 ^ (64 - 7 * v_1.snd.fst) ≤ 18446744073709551616 := pw
        have t : ((v_1.fst : Int)).tdiv 128 = (v_1.fst : Int) / 128 := Int.tdiv_eq_ediv_of_nonneg (by omega)
        (try rw [t] at q14)
        have := (small_step v_1.fst v_1.snd.fst h1.2.2.1 (by omega) h1.2.1).2
        have e : n14.toNat = v_1.fst / 128 := by omega
        rw [e]; exact this
      refine ⟨h5, ?_⟩
      -- z12 ++ smallF ((10 : Nat) - (v_1.snd.fst + (1 : Nat))) n14.toNat = smallL n.toNat
      have pw : 2 ^ (64 - 7 * v_1.snd.fst) ≤ 2 ^ 64 := Nat.pow_le_pow_right (by decide) (by omega)
      have pw : 2 ^ (64 - 7 * v_1.snd.fst) ≤ 18446744073709551616 := pw
      have t : ((v_1.fst : Int)).tdiv 128 = (v_1.fst : Int) / 128 := Int.tdiv_eq_ediv_of_nonneg (by omega)
      (try rw [t] at q14)
      have u : ((v_1.fst : Int)).tmod 128 = (v_1.fst : Int) % 128 := Int.tmod_eq_emod_of_nonneg (by omega)
      (try rw [u] at q3)
      have e5 : n14.toNat = v_1.fst / 128 := by omega
      have e3 : n9.toNat = v_1.fst % 128 + 128 := by omega
      rw [← h1.2.2.2, e5, qz12, e3, List.take_of_length_le (by omega)]
      have e : 10 - v_1.snd.fst = (10 - (v_1.snd.fst + 1)) + 1 := by omega
      rw [e]
      have hF : smallF (10 - (v_1.snd.fst + 1) + 1) v_1.fst = UInt8.ofNat (v_1.fst % 128 + 128) :: smallF (10 - (v_1.snd.fst + 1)) (v_1.fst / 128) := by
        rw [smallF, if_neg (by omega)]
      rw [hF]
      simp
    exact by show (10 : Nat) - (v_1.snd.fst + (1 : Nat)) < (10 : Nat) - v_1.snd.fst; omega -- (10 : Nat) - (v_1.snd.fst + (1 : Nat)) < (10 : Nat) - v_1.snd.fst
  · -- no
    intro n17
    intro q17 -- n17 = IntKind.u8.wrap (↑v_1.fst : Int)
    rw [IntKind.wrap_u8] at q17
    intro ⟨l17, u17⟩ -- (0 : Int) ≤ n17 ∧ n17 ≤ (255 : Int)
    refine ⟨by first | omega | (dsimp only; omega), ?_⟩ -- (v_1.snd.fst + (1 : Nat)) * (1 : Nat) ≤ (140737488355328 : Nat)
    intro z20
    intro qz20 -- z20 = List.take v_1.snd.fst v_1.snd.snd ++ List.take (1 : Nat) (List.drop (0 : Nat) [UInt8.ofNat n17.toNat])
    -- k (AV.row (0 : Nat) (0 : Nat) (0 : Nat) (v_1.snd.fst + (1 : Nat))) [] [Blk.row (0 : Nat) z20]
    have e : 10 - v_1.snd.fst = (9 - v_1.snd.fst) + 1 := by omega
    have hF : smallF (10 - v_1.snd.fst) v_1.fst = [UInt8.ofNat v_1.fst] := by
      rw [e, smallF, if_pos (by omega)]
    have pw : 2 ^ (64 - 7 * v_1.snd.fst) ≤ 2 ^ 64 := Nat.pow_le_pow_right (by decide) (by omega)
    have pw : 2 ^ (64 - 7 * v_1.snd.fst) ≤ 18446744073709551616 := pw
    have e6 : n17.toNat = v_1.fst := by omega
    exact hk z20 (v_1.snd.fst + 1) (by rw [qz20, ← h1.2.2.2, hF, e6, List.take_of_length_le (by omega)]; simp) (by rw [qz20]; simp; omega) (by omega)

theorem rsmall_ok : Holds Try.prog 39 smallS := by
  refine fn_sound (env := mkEnv T0) (tab_ok T0_ok) Try.func39 Try.call39 fun args k h => ?_
  match args, h with
  | [.int .u64 n], h => exact ⟨by kernel_rfl, rsmallLoops n, fun _ _ => none, .cast (by kernel_rfl) (rsmall_vc n h.1.1 h.1.2 k h.2)⟩
set_option maxHeartbeats 2000000 in
theorem rread_vc (xs : List UInt8) (hxs : xs.length ≤ (1000000 : Nat)) (k : AV → List (Option Blk) → List Blk → Prop) (hk : ∀ (a b c : Int), a = (↑(readG (0 : Nat) (0 : Nat) xs).fst : Int) → b = (↑(readG (0 : Nat) (0 : Nat) xs).snd.fst : Int) → c = (↑(readG (0 : Nat) (0 : Nat) xs).snd.snd : Int) → (0 : Int) ≤ a ∧ a ≤ (18446744073709551615 : Int) → (0 : Int) ≤ b ∧ b ≤ (10 : Int) → c = (0 : Int) ∨ c = (8 : Int) → k (AV.tup [AV.int IntKind.u64 a, AV.int IntKind.i64 b, AV.int IntKind.i64 c]) [] []) :
  (
   ∃ (v : Nat),
   (xs = xs) ∧
   ((0 : Int) = (↑v : Int)) ∧
   (v ≤ xs.length) ∧
   (v ≤ (10 : Nat)) ∧
   (hiS xs v)) ∧
  ∀ (v_1 : Nat),
  (v_1 ≤ xs.length ∧ v_1 ≤ (10 : Nat) ∧ hiS xs v_1) →
  ∀ (n3 : Int),
  (n3 = (↑xs.length : Int)) →
  ((-9223372036854775808 : Int) ≤ n3 ∧ n3 ≤ (9223372036854775807 : Int)) →
  (
   ((bif decide ((↑v_1 : Int) < n3) then decide ((↑v_1 : Int) < (10 : Int)) else false) = true) →
   ((0 : Int) ≤ (↑v_1 : Int)) ∧
   ((↑v_1 : Int) < (↑xs.length : Int))) ∧
  ∀ (n7 : Int),
  (n7 = (↑(xs.getD (↑v_1 : Int).toNat (0 : UInt8)).toNat : Int)) →
  br (bif bif decide ((↑v_1 : Int) < n3) then decide ((↑v_1 : Int) < (10 : Int)) else false then decide (n7 ≥ (128 : Int)) else false)
   (∀ (n9 : Int),
    (n9 = IntKind.i64.wrap ((↑v_1 : Int) + (1 : Int))) →
    ((-9223372036854775808 : Int) ≤ n9 ∧ n9 ≤ (9223372036854775807 : Int)) →
    ∃ (v' : Nat),
    (xs = xs) ∧
    (n9 = (↑v' : Int)) ∧
    (
     (v' ≤ xs.length) ∧
     (v' ≤ (10 : Nat)) ∧
     (hiS xs v')) ∧
    ((10 : Nat) - v' < (10 : Nat) - v_1))
   (∀ (n12 : Int),
    (n12 = (↑xs.length : Int)) →
    ((-9223372036854775808 : Int) ≤ n12 ∧ n12 ≤ (9223372036854775807 : Int)) →
    (
     (((↑v_1 : Int) == (9 : Int)) = true ∧ (bif decide ((↑v_1 : Int) ≥ n12) then true else decide ((↑v_1 : Int) ≥ (10 : Int))) = false) →
     ((0 : Int) ≤ (9 : Int)) ∧
     ((9 : Int) < (↑xs.length : Int))) ∧
    ∀ (n15 : Int),
    (n15 = (↑(xs.getD (Int.toNat (9 : Int)) (0 : UInt8)).toNat : Int)) →
    (
     (decide ((↑v_1 : Int) > (0 : Int)) = true ∧ (bif bif decide ((↑v_1 : Int) ≥ n12) then true else decide ((↑v_1 : Int) ≥ (10 : Int)) then true else bif (↑v_1 : Int) == (9 : Int) then decide (n15 > (1 : Int)) else false) = false) →
     ((0 : Int) ≤ (↑v_1 : Int)) ∧
     ((↑v_1 : Int) < (↑xs.length : Int))) ∧
    ∀ (n18 : Int),
    (n18 = (↑(xs.getD (↑v_1 : Int).toNat (0 : UInt8)).toNat : Int)) →
    br (bif bif bif decide ((↑v_1 : Int) ≥ n12) then true else decide ((↑v_1 : Int) ≥ (10 : Int)) then true else bif (↑v_1 : Int) == (9 : Int) then decide (n15 > (1 : Int)) else false then true else bif decide ((↑v_1 : Int) > (0 : Int)) then n18 == (0 : Int) else false)
     ((k (AV.tup [AV.int IntKind.u64 (0 : Int), AV.int IntKind.i64 (0 : Int), AV.int IntKind.i64 (8 : Int)]) [] []))
     ((
       ∃ (v : Nat × Int × Int),
       (xs = xs) ∧
       ((↑v_1 : Int) = (↑v.fst : Int)) ∧
       ((0 : Int) = v.snd.snd) ∧
       ((↑v_1 : Int) = v.snd.fst) ∧
       (v.fst < xs.length) ∧
       (v.fst ≤ (9 : Nat)) ∧
       (okR xs v.fst) ∧
       (
        ((-1 : Int) ≤ v.snd.fst) ∧
        (v.snd.fst ≤ (↑v.fst : Int))) ∧
       (v.snd.snd = (↑(valL (List.drop (v.snd.fst + (1 : Int)).toNat (List.take (v.fst + (1 : Nat)) xs))) : Int))) ∧
      ∀ (v_20 : Nat × Int × Int),
      (v_20.fst < xs.length ∧ v_20.fst ≤ (9 : Nat) ∧ okR xs v_20.fst ∧ ((-1 : Int) ≤ v_20.snd.fst ∧ v_20.snd.fst ≤ (↑v_20.fst : Int)) ∧ v_20.snd.snd = (↑(valL (List.drop (v_20.snd.fst + (1 : Int)).toNat (List.take (v_20.fst + (1 : Nat)) xs))) : Int)) →
      br (decide (v_20.snd.fst ≥ (0 : Int)))
       (∀ (n22 : Int),
        (n22 = IntKind.u64.wrap (v_20.snd.snd * (128 : Int))) →
        ((0 : Int) ≤ n22 ∧ n22 ≤ (18446744073709551615 : Int)) →
        ((0 : Int) ≤ v_20.snd.fst) ∧
        (v_20.snd.fst < (↑xs.length : Int)) ∧
        ∀ (n25 : Int),
        (n25 = (↑(xs.getD v_20.snd.fst.toNat (0 : UInt8)).toNat : Int)) →
        ((0 : Int) ≤ n25 ∧ n25 ≤ (255 : Int)) →
        ((128 : Int) ≠ (0 : Int)) ∧
        ∀ (n28 : Int),
        (n28 = n25.tmod (128 : Int)) →
        ((0 : Int) ≤ n28 ∧ n28 ≤ (255 : Int)) →
        ∀ (n31 : Int),
        (n31 = IntKind.u64.wrap n28) →
        ((0 : Int) ≤ n31 ∧ n31 ≤ (18446744073709551615 : Int)) →
        ∀ (n34 : Int),
        (n34 = IntKind.u64.wrap (n22 + n31)) →
        ((0 : Int) ≤ n34 ∧ n34 ≤ (18446744073709551615 : Int)) →
        ∀ (n37 : Int),
        (n37 = IntKind.i64.wrap (v_20.snd.fst - (1 : Int))) →
        ((-9223372036854775808 : Int) ≤ n37 ∧ n37 ≤ (9223372036854775807 : Int)) →
        ∃ (v' : Nat × Int × Int),
        (xs = xs) ∧
        ((↑v_20.fst : Int) = (↑v'.fst : Int)) ∧
        (n34 = v'.snd.snd) ∧
        (n37 = v'.snd.fst) ∧
        (
         (v'.fst < xs.length) ∧
         (v'.fst ≤ (9 : Nat)) ∧
         (okR xs v'.fst) ∧
         (
          ((-1 : Int) ≤ v'.snd.fst) ∧
          (v'.snd.fst ≤ (↑v'.fst : Int))) ∧
         (v'.snd.snd = (↑(valL (List.drop (v'.snd.fst + (1 : Int)).toNat (List.take (v'.fst + (1 : Nat)) xs))) : Int))) ∧
        ((v'.snd.fst + (1 : Int)).toNat < (v_20.snd.fst + (1 : Int)).toNat))
       (∀ (n40 : Int),
        (n40 = IntKind.i64.wrap ((↑v_20.fst : Int) + (1 : Int))) →
        ((-9223372036854775808 : Int) ≤ n40 ∧ n40 ≤ (9223372036854775807 : Int)) →
        (k (AV.tup [AV.int IntKind.u64 v_20.snd.snd, AV.int IntKind.i64 n40, AV.int IntKind.i64 (0 : Int)]) [] [])))) := by
  refine ⟨?_, ?_⟩
  · -- left
    refine ⟨Int.toNat (0 : Int), ?_⟩
    refine ⟨by first | with_reducible rfl | rfl, ?_⟩ -- xs = xs
    refine ⟨by show (0 : Int) = (↑(Int.toNat (0 : Int)) : Int); omega, ?_⟩ -- (0 : Int) = (↑(Int.toNat (0 : Int)) : Int)
    refine ⟨by show Int.toNat (0 : Int) ≤ xs.length; omega, ?_⟩ -- Int.toNat (0 : Int) ≤ xs.length
    refine ⟨by show Int.toNat (0 : Int) ≤ (10 : Nat); omega, ?_⟩ -- Int.toNat (0 : Int) ≤ (10 : Nat)
    -- hiS xs (Int.toNat (0 : Int))
    exact ⟨fun j hj => absurd hj (Nat.not_lt_zero _)⟩
  intro v_1
  intro h1 -- v_1 ≤ xs.length ∧ v_1 ≤ (10 : Nat) ∧ hiS xs v_1
  intro n3
  intro q3 -- n3 = (↑xs.length : Int)
  intro ⟨l3, u3⟩ -- (-9223372036854775808 : Int) ≤ n3 ∧ n3 ≤ (9223372036854775807 : Int)
  refine ⟨?_, ?_⟩
  · -- left
    intro h2 -- (bif decide ((↑v_1 : Int) < n3) then decide ((↑v_1 : Int) < (10 : Int)) else false) = true
    simp at h2 -- (↑v_1 : Int) < n3 ∧ (↑v_1 : Int) < (10 : Int)
    refine ⟨by first | omega | (dsimp only; omega), ?_⟩ -- (0 : Int) ≤ (↑v_1 : Int)
    exact by omega -- (↑v_1 : Int) < (↑xs.length : Int)
  intro n7
  intro q7 -- n7 = (↑(xs.getD (↑v_1 : Int).toNat (0 : UInt8)).toNat : Int)
  refine br_intro (fun c3 => ?_) (fun c3 => ?_) -- bif bif decide ((↑v_1 : Int) < n3) then decide ((↑v_1 : Int) < (10 : Int)) else false then decide (n7 ≥ (128 : Int)) else false
  · -- yes
    simp at c3 -- ((↑v_1 : Int) < n3 ∧ (↑v_1 : Int) < (10 : Int)) ∧ (128 : Int) ≤ n7
    intro n9
    intro q9 -- n9 = IntKind.i64.wrap ((↑v_1 : Int) + (1 : Int))
    rw [IntKind.wrap_i64] at q9
    intro ⟨l9, u9⟩ -- (-9223372036854775808 : Int) ≤ n9 ∧ n9 ≤ (9223372036854775807 : Int)
    refine ⟨n9.toNat, ?_⟩
    refine ⟨by first | with_reducible rfl | rfl, ?_⟩ -- xs = xs
    refine ⟨by show n9 = (↑n9.toNat : Int); omega, ?_⟩ -- n9 = (↑n9.toNat : Int)
    refine ⟨?_, ?_⟩
    · -- left
      refine ⟨by show n9.toNat ≤ xs.length; omega, ?_⟩ -- n9.toNat ≤ xs.length
      refine ⟨by show n9.toNat ≤ (10 : Nat); omega, ?_⟩ -- n9.toNat ≤ (10 : Nat)
      -- hiS xs n9.toNat
      refine ⟨fun j hj => ?_⟩
      by_cases e : j = v_1
      · subst e
        have t := c3.2
        rw [q7, Int.toNat_natCast] at t
        omega
      · exact h1.2.2.out j (by omega)
    exact by show (10 : Nat) - n9.toNat < (10 : Nat) - v_1; omega -- (10 : Nat) - n9.toNat < (10 : Nat) - v_1
  · -- no
    simp at c3 -- (↑v_1 : Int) < n3 → (↑v_1 : Int) < (10 : Int) → n7 < (128 : Int)
    intro n12
    intro q12 -- n12 = (↑xs.length : Int)
    intro ⟨l12, u12⟩ -- (-9223372036854775808 : Int) ≤ n12 ∧ n12 ≤ (9223372036854775807 : Int)
    refine ⟨?_, ?_⟩
    · -- left
      intro ⟨a4, b4⟩ -- ((↑v_1 : Int) == (9 : Int)) = true ∧ (bif decide ((↑v_1 : Int) ≥ n12) then true else decide ((↑v_1 : Int) ≥ (10 : Int))) = false
      simp at a4 -- (↑v_1 : Int) = (9 : Int)
      simp at b4 -- (↑v_1 : Int) < n12 ∧ (↑v_1 : Int) < (10 : Int)
      refine ⟨by first | omega | (dsimp only; omega), ?_⟩ -- (0 : Int) ≤ (9 : Int)
      exact by omega -- (9 : Int) < (↑xs.length : Int)
    intro n15
    intro q15 -- n15 = (↑(xs.getD (Int.toNat (9 : Int)) (0 : UInt8)).toNat : Int)
    refine ⟨?_, ?_⟩
    · -- left
      intro ⟨l15, u15⟩ -- decide ((↑v_1 : Int) > (0 : Int)) = true ∧ (bif bif decide ((↑v_1 : Int) ≥ n12) then true else decide ((↑v_1 : Int) ≥ (10 : Int)) then true else bif (↑v_1 : Int) == (9 : Int) then decide (n15 > (1 : Int)) else false) = false
      simp at l15 -- (0 : Nat) < v_1
      simp at u15 -- ((↑v_1 : Int) < n12 ∧ (↑v_1 : Int) < (10 : Int)) ∧ ((↑v_1 : Int) = (9 : Int) → n15 ≤ (1 : Int))
      refine ⟨by first | omega | (dsimp only; omega), ?_⟩ -- (0 : Int) ≤ (↑v_1 : Int)
      exact by omega -- (↑v_1 : Int) < (↑xs.length : Int)
    intro n18
    intro q18 -- n18 = (↑(xs.getD (↑v_1 : Int).toNat (0 : UInt8)).toNat : Int)
    refine br_intro (fun c5 => ?_) (fun c5 => ?_) -- bif bif bif decide ((↑v_1 : Int) ≥ n12) then true else decide ((↑v_1 : Int) ≥ (10 : Int)) then true else bif (↑v_1 : Int) == (9 : Int) then decide (n15 > (1 : Int)) else false then true else bif decide ((↑v_1 : Int) > (0 : Int)) then n18 == (0 : Int) else false
    · -- yes
      simp at c5 -- ((n12 ≤ (↑v_1 : Int) ∨ (10 : Int) ≤ (↑v_1 : Int)) ∨ (↑v_1 : Int) = (9 : Int) ∧ (1 : Int) < n15) ∨ (0 : Nat) < v_1 ∧ n18 = (0 : Int)
      -- k (AV.tup [AV.int IntKind.u64 (0 : Int), AV.int IntKind.i64 (0 : Int), AV.int IntKind.i64 (8 : Int)]) [] []
      have e18 : n18 = (((xs.getD v_1 0).toNat : Nat) : Int) := by rw [q18, Int.toNat_natCast]
      have e15 : v_1 = 9 → n15 = (((xs.getD v_1 0).toNat : Nat) : Int) := fun h => by rw [q15, h]; rfl
      have R := read_bad v_1 0 0 xs (by omega) h1.1 h1.2.2.out (by omega) (by omega)
      exact hk 0 0 8 (by rw [R]; rfl) (by rw [R]; rfl) (by rw [R]; rfl) (by omega) (by omega) (.inr rfl)
    · -- no
      simp at c5 -- (((↑v_1 : Int) < n12 ∧ (↑v_1 : Int) < (10 : Int)) ∧ ((↑v_1 : Int) = (9 : Int) → n15 ≤ (1 : Int))) ∧ ((0 : Nat) < v_1 → ¬n18 = (0 : Int))
      refine ⟨?_, ?_⟩
      · -- left
        refine ⟨(v_1, (↑v_1 : Int), (0 : Int)), ?_⟩
        refine ⟨by first | with_reducible rfl | rfl, ?_⟩ -- xs = xs
        refine ⟨by first | with_reducible rfl | rfl, ?_⟩ -- (↑v_1 : Int) = (↑v_1 : Int)
        refine ⟨by first | with_reducible rfl | rfl, ?_⟩ -- (0 : Int) = (0 : Int)
        refine ⟨by first | with_reducible rfl | rfl, ?_⟩ -- (↑v_1 : Int) = (↑v_1 : Int)
        refine ⟨by show v_1 < xs.length; omega, ?_⟩ -- v_1 < xs.length
        refine ⟨by show v_1 ≤ (9 : Nat); omega, ?_⟩ -- v_1 ≤ (9 : Nat)
        have h6 : okR xs v_1 := by
          have e7 : n7 = (((xs.getD v_1 0).toNat : Nat) : Int) := by rw [q7, Int.toNat_natCast]
          have e18 : n18 = (((xs.getD v_1 0).toNat : Nat) : Int) := by rw [q18, Int.toNat_natCast]
          have e15 : v_1 = 9 → n15 = (((xs.getD v_1 0).toNat : Nat) : Int) := fun h => by rw [q15, h]; rfl
          have t := c3 (by omega) (by omega)
          exact ⟨h1.2.2.out, by omega, fun ⟨a, b⟩ => by have := e15 a; have := c5.1.2 (by omega); omega, fun ⟨a, b⟩ => by have := c5.2 a; omega⟩
        refine ⟨h6, ?_⟩
        refine ⟨by first | omega | (dsimp only; omega), ?_⟩ -- (-1 : Int) ≤ (↑v_1 : Int) ∧ (↑v_1 : Int) ≤ (↑v_1 : Int)
        -- (0 : Int) = (↑(valL (List.drop ((↑v_1 : Int) + (1 : Int)).toNat (List.take (v_1 + (1 : Nat)) xs))) : Int)
        rw [show ((v_1 : Int) + 1).toNat = v_1 + 1 by omega, List.drop_eq_nil_of_le (by simp; omega)]; rfl
      intro v_20
      intro h7 -- v_20.fst < xs.length ∧ v_20.fst ≤ (9 : Nat) ∧ okR xs v_20.fst ∧ ((-1 : Int) ≤ v_20.snd.fst ∧ v_20.snd.fst ≤ (↑v_20.fst : Int)) ∧ v_20.snd.snd = (↑(valL (List.drop (v_20.snd.fst + (1 : Int)).toNat (List.take (v_20.fst + (1 : Nat)) xs))) : Int)
      refine brd (fun c8 => ?_) (fun c8 => ?_) -- decide (v_20.snd.fst ≥ (0 : Int))
      · -- yes
        intro n22
        intro q22 -- n22 = IntKind.u64.wrap (v_20.snd.snd * (128 : Int))
        rw [IntKind.wrap_u64] at q22
        intro ⟨l22, u22⟩ -- (0 : Int) ≤ n22 ∧ n22 ≤ (18446744073709551615 : Int)
        refine ⟨by assumption, ?_⟩ -- (0 : Int) ≤ v_20.snd.fst
        refine ⟨by first | omega | (dsimp only; omega), ?_⟩ -- v_20.snd.fst < (↑xs.length : Int)
        intro n25
        intro q25 -- n25 = (↑(xs.getD v_20.snd.fst.toNat (0 : UInt8)).toNat : Int)
        intro ⟨l25, u25⟩ -- (0 : Int) ≤ n25 ∧ n25 ≤ (255 : Int)
        refine ⟨by first | omega | (dsimp only; omega), ?_⟩ -- (128 : Int) ≠ (0 : Int)
        intro n28
        intro q28 -- n28 = n25.tmod (128 : Int)
        rw [Int.tmod_eq_emod_of_nonneg (by omega)] at q28
        intro ⟨l28, u28⟩ -- (0 : Int) ≤ n28 ∧ n28 ≤ (255 : Int)
        intro n31
        intro q31 -- n31 = IntKind.u64.wrap n28
        rw [IntKind.wrap_u64] at q31
        intro ⟨l31, u31⟩ -- (0 : Int) ≤ n31 ∧ n31 ≤ (18446744073709551615 : Int)
        intro n34
        intro q34 -- n34 = IntKind.u64.wrap (n22 + n31)
        rw [IntKind.wrap_u64] at q34
        intro ⟨l34, u34⟩ -- (0 : Int) ≤ n34 ∧ n34 ≤ (18446744073709551615 : Int)
        intro n37
        intro q37 -- n37 = IntKind.i64.wrap (v_20.snd.fst - (1 : Int))
        rw [IntKind.wrap_i64] at q37
        intro ⟨l37, u37⟩ -- (-9223372036854775808 : Int) ≤ n37 ∧ n37 ≤ (9223372036854775807 : Int)
        refine ⟨(v_20.fst, n37, n34), ?_⟩
        refine ⟨by first | with_reducible rfl | rfl, ?_⟩ -- xs = xs
        refine ⟨by first | with_reducible rfl | rfl, ?_⟩ -- (↑v_20.fst : Int) = (↑v_20.fst : Int)
        refine ⟨by first | with_reducible rfl | rfl, ?_⟩ -- n34 = n34
        refine ⟨by first | with_reducible rfl | rfl, ?_⟩ -- n37 = n37
        refine ⟨?_, ?_⟩
        · -- left
          refine ⟨by show v_20.fst < xs.length; omega, ?_⟩ -- v_20.fst < xs.length
          refine ⟨by show v_20.fst ≤ (9 : Nat); omega, ?_⟩ -- v_20.fst ≤ (9 : Nat)
          have h9 : okR xs v_20.fst := by
            exact h7.2.2.1
          refine ⟨h9, ?_⟩
          refine ⟨by first | omega | (dsimp only; omega), ?_⟩ -- (-1 : Int) ≤ n37 ∧ n37 ≤ (↑v_20.fst : Int)
          -- n34 = (↑(valL (List.drop (n37 + (1 : Int)).toNat (List.take (v_20.fst + (1 : Nat)) xs))) : Int)
          have room := val_room h7.2.2.1 h7.1 h7.2.1 (v_20.fst + 1 - v_20.snd.fst.toNat) v_20.snd.fst.toNat (by omega)
          have p : 2 ^ (64 - 7 * v_20.snd.fst.toNat) ≤ 2 ^ 64 := Nat.pow_le_pow_right (by decide) (by omega)
          have p : 2 ^ (64 - 7 * v_20.snd.fst.toNat) ≤ 18446744073709551616 := p
          have d := valL_drop (xs := List.take (v_20.fst + 1) xs) (j := v_20.snd.fst.toNat) (by simp; omega)
          rw [take_get (by omega)] at d
          have t := h7.2.2.2.2
          rw [show (v_20.snd.fst + 1).toNat = v_20.snd.fst.toNat + 1 by omega] at t
          rw [show (n37 + 1).toNat = v_20.snd.fst.toNat by omega]
          rw [d] at room
          rw [d]
          generalize valL (List.drop (v_20.snd.fst.toNat + 1) (List.take (v_20.fst + 1) xs)) = A at room t ⊢
          generalize (xs.getD v_20.snd.fst.toNat 0).toNat = x at room q25 ⊢
          have hb : x % 128 + 128 * A < 18446744073709551616 := Nat.lt_of_lt_of_le room p
          clear room p d h1 c3 c5
          have u : n25.tmod 128 = n25 % 128 := Int.tmod_eq_emod_of_nonneg (by omega)
          have e28 : n28 = ((x % 128 : Nat) : Int) := by omega
          clear q28 u
          have e31 : n31 = n28 := by omega
          clear q31
          have e22 : n22 = v_20.snd.snd * 128 := by omega
          clear q22
          (try dsimp only)
          omega
        exact by show (n37 + (1 : Int)).toNat < (v_20.snd.fst + (1 : Int)).toNat; omega -- (n37 + (1 : Int)).toNat < (v_20.snd.fst + (1 : Int)).toNat
      · -- no
        intro n40
        intro q40 -- n40 = IntKind.i64.wrap ((↑v_20.fst : Int) + (1 : Int))
        rw [IntKind.wrap_i64] at q40
        intro ⟨l40, u40⟩ -- (-9223372036854775808 : Int) ≤ n40 ∧ n40 ≤ (9223372036854775807 : Int)
        -- k (AV.tup [AV.int IntKind.u64 v_20.snd.snd, AV.int IntKind.i64 n40, AV.int IntKind.i64 (0 : Int)]) [] []
        have R := read_okR h7.2.2.1 h7.1 h7.2.1
        have t := h7.2.2.2.2
        rw [show (v_20.snd.fst + 1).toNat = 0 by omega, List.drop_zero] at t
        have room := val_room h7.2.2.1 h7.1 h7.2.1 (v_20.fst + 1) 0 (by omega)
        rw [List.drop_zero] at room
        have room : valL (List.take (v_20.fst + 1) xs) < 18446744073709551616 := room
        exact hk _ n40 0 (by rw [R]; exact t) (by rw [R]; show n40 = ((v_20.fst + 1 : Nat) : Int); omega) (by rw [R]; rfl) (by omega) (by omega) (.inl rfl)

theorem rread_ok : Holds Try.prog 51 readS := by
  refine fn_sound (env := mkEnv T0) (tab_ok T0_ok) Try.func51 Try.call51 fun args k h => ?_
  match args, h with
  | [.sl 0 xs], h => exact ⟨by kernel_rfl, rreadLoops xs, fun _ _ => none, .cast (by kernel_rfl) (rread_vc xs h.1 k h.2)⟩
set_option maxHeartbeats 2000000 in
theorem equal_vc (a : List UInt8) (b : List UInt8) (k : AV → List (Option Blk) → List Blk → Prop) (hk : ∀ (r : Bool), (r = true ↔ a = b) → k (AV.bool r) [] []) :
  (k (AV.bool ({ data := a.toArray : ByteArray }.data.toList == { data := b.toArray : ByteArray }.data.toList)) [] []) := by
  -- k (AV.bool ({ data := a.toArray : ByteArray }.data.toList == { data := b.toArray : ByteArray }.data.toList)) [] []
  exact hk _ ⟨fun h => by simpa using h, fun h => by simp [h]⟩

theorem equal_ok : Holds Try.prog 41 equalS := by
  refine fn_sound (env := mkEnv T0) (tab_ok T0_ok) Try.func41 Try.call41 fun args k h => ?_
  match args, h with
  | [.sl 0 a, .sl 0 b], h => exact ⟨by kernel_rfl, fun _ _ => none, fun _ _ => none, .cast (by kernel_rfl) (equal_vc a b k h)⟩
set_option maxHeartbeats 2000000 in
theorem sin_vc (n : Int) (a : Int) (b : Int) (k : AV → List (Option Blk) → List Blk → Prop) (hk : ∀ (r : Bool), (r = true ↔ a ≤ n ∧ n ≤ b) → k (AV.bool r) [] []) :
  (k (AV.bool (bif decide (n ≥ a) then decide (n ≤ b) else false)) [] []) := by
  -- k (AV.bool (bif decide (n ≥ a) then decide (n ≤ b) else false)) [] []
  exact hk _ (by simp)

theorem sin_ok : Holds Try.prog 46 inS := by
  refine fn_sound (env := mkEnv T0) (tab_ok T0_ok) Try.func46 Try.call46 fun args k h => ?_
  match args, h with
  | [.int .i64 n, .int .i64 a, .int .i64 b], h => exact ⟨by kernel_rfl, fun _ _ => none, fun _ _ => none, .cast (by kernel_rfl) (sin_vc n a b k h)⟩
set_option maxHeartbeats 2000000 in
theorem rin_vc (n : Int) (a : Int) (b : Int) (k : AV → List (Option Blk) → List Blk → Prop) (hk : ∀ (r : Bool), (r = true ↔ a ≤ n ∧ n ≤ b) → k (AV.bool r) [] []) :
  (k (AV.bool (bif decide (n ≥ a) then decide (n ≤ b) else false)) [] []) := by
  -- k (AV.bool (bif decide (n ≥ a) then decide (n ≤ b) else false)) [] []
  exact hk _ (by simp)

theorem rin_ok : Holds Try.prog 49 inS := by
  refine fn_sound (env := mkEnv T0) (tab_ok T0_ok) Try.func49 Try.call49 fun args k h => ?_
  match args, h with
  | [.int .i64 n, .int .i64 a, .int .i64 b], h => exact ⟨by kernel_rfl, fun _ _ => none, fun _ _ => none, .cast (by kernel_rfl) (rin_vc n a b k h)⟩
set_option maxHeartbeats 2000000 in
theorem sited_vc (n : Int) (n0 : (-9223372036854775808 : Int) ≤ n) (n1 : n ≤ (9223372036854775807 : Int)) (k : AV → List (Option Blk) → List Blk → Prop) (hk : ∀ (r : Bool), (r = true ↔ (0 : Int) ≤ n ∧ n ≤ (65535 : Int)) → k (AV.bool r) [] []) :
  (k (AV.bool (bif decide (n ≥ (0 : Int)) then decide (n ≤ (65535 : Int)) else false)) [] []) := by
  -- k (AV.bool (bif decide (n ≥ (0 : Int)) then decide (n ≤ (65535 : Int)) else false)) [] []
  exact hk _ (by simp)

theorem sited_ok : Holds Try.prog 34 sitedS := by
  refine fn_sound (env := mkEnv T0) (tab_ok T0_ok) Try.func34 Try.call34 fun args k h => ?_
  match args, h with
  | [.int .i64 n], h => exact ⟨by kernel_rfl, fun _ _ => none, fun _ _ => none, .cast (by kernel_rfl) (sited_vc n h.1.1 h.1.2 k h.2)⟩
set_option maxHeartbeats 2000000 in
theorem samei_vc (a : List Int) (b : List Int) (k : AV → List (Option Blk) → List Blk → Prop) (hk : ∀ (r : Bool), (r = true ↔ a = b) → k (AV.bool r) [] []) :
  ∀ (n1 : Int),
  (n1 = (↑a.length : Int)) →
  ((-9223372036854775808 : Int) ≤ n1 ∧ n1 ≤ (9223372036854775807 : Int)) →
  ∀ (n4 : Int),
  (n4 = (↑b.length : Int)) →
  ((-9223372036854775808 : Int) ≤ n4 ∧ n4 ≤ (9223372036854775807 : Int)) →
  br (n1 != n4)
   ((k (AV.bool false) [] []))
   ((
     ∃ (v : Nat),
     (a = a) ∧
     (b = b) ∧
     ((0 : Int) = (↑v : Int)) ∧
     (v ≤ a.length) ∧
     (a.length = b.length) ∧
     (eqI a b v)) ∧
    ∀ (v_7 : Nat),
    (v_7 ≤ a.length ∧ a.length = b.length ∧ eqI a b v_7) →
    ∀ (n9 : Int),
    (n9 = (↑a.length : Int)) →
    ((-9223372036854775808 : Int) ≤ n9 ∧ n9 ≤ (9223372036854775807 : Int)) →
    br (decide ((↑v_7 : Int) < n9))
     (((0 : Int) ≤ (↑v_7 : Int)) ∧
      ((↑v_7 : Int) < (↑a.length : Int)) ∧
      ∀ (n12 : Int),
      (n12 = a.getD (↑v_7 : Int).toNat (0 : Int)) →
      ((-9223372036854775808 : Int) ≤ n12 ∧ n12 ≤ (9223372036854775807 : Int)) →
      ((0 : Int) ≤ (↑v_7 : Int)) ∧
      ((↑v_7 : Int) < (↑b.length : Int)) ∧
      ∀ (n15 : Int),
      (n15 = b.getD (↑v_7 : Int).toNat (0 : Int)) →
      ((-9223372036854775808 : Int) ≤ n15 ∧ n15 ≤ (9223372036854775807 : Int)) →
      br (n12 != n15)
       ((k (AV.bool false) [] []))
       (∀ (n18 : Int),
        (n18 = IntKind.i64.wrap ((↑v_7 : Int) + (1 : Int))) →
        ((-9223372036854775808 : Int) ≤ n18 ∧ n18 ≤ (9223372036854775807 : Int)) →
        ∃ (v' : Nat),
        (a = a) ∧
        (b = b) ∧
        (n18 = (↑v' : Int)) ∧
        (
         (v' ≤ a.length) ∧
         (a.length = b.length) ∧
         (eqI a b v')) ∧
        (a.length - v' < a.length - v_7)))
     ((k (AV.bool true) [] []))) := by
  intro n1
  intro q1 -- n1 = (↑a.length : Int)
  intro ⟨l1, u1⟩ -- (-9223372036854775808 : Int) ≤ n1 ∧ n1 ≤ (9223372036854775807 : Int)
  intro n4
  intro q4 -- n4 = (↑b.length : Int)
  intro ⟨l4, u4⟩ -- (-9223372036854775808 : Int) ≤ n4 ∧ n4 ≤ (9223372036854775807 : Int)
  refine br_intro (fun c1 => ?_) (fun c1 => ?_) -- n1 != n4
  · -- yes
    simp at c1 -- ¬n1 = n4
    -- k (AV.bool false) [] []
    refine hk false ⟨fun c => (by cases c), fun e => ?_⟩
    subst e
    exact absurd (by omega) c1
  · -- no
    simp at c1 -- n1 = n4
    refine ⟨?_, ?_⟩
    · -- left
      refine ⟨Int.toNat (0 : Int), ?_⟩
      refine ⟨by first | with_reducible rfl | rfl, ?_⟩ -- a = a
      refine ⟨by first | with_reducible rfl | rfl, ?_⟩ -- b = b
      refine ⟨by show (0 : Int) = (↑(Int.toNat (0 : Int)) : Int); omega, ?_⟩ -- (0 : Int) = (↑(Int.toNat (0 : Int)) : Int)
      refine ⟨by show Int.toNat (0 : Int) ≤ a.length; omega, ?_⟩ -- Int.toNat (0 : Int) ≤ a.length
      refine ⟨by show a.length = b.length; omega, ?_⟩ -- a.length = b.length
      -- eqI a b (Int.toNat (0 : Int))
      exact ⟨rfl⟩
    intro v_7
    intro h2 -- v_7 ≤ a.length ∧ a.length = b.length ∧ eqI a b v_7
    intro n9
    intro q9 -- n9 = (↑a.length : Int)
    intro ⟨l9, u9⟩ -- (-9223372036854775808 : Int) ≤ n9 ∧ n9 ≤ (9223372036854775807 : Int)
    refine brd (fun c3 => ?_) (fun c3 => ?_) -- decide ((↑v_7 : Int) < n9)
    · -- yes
      refine ⟨by first | omega | (dsimp only; omega), ?_⟩ -- (0 : Int) ≤ (↑v_7 : Int)
      refine ⟨by first | omega | (dsimp only; omega), ?_⟩ -- (↑v_7 : Int) < (↑a.length : Int)
      intro n12
      intro q12 -- n12 = a.getD (↑v_7 : Int).toNat (0 : Int)
      intro ⟨l12, u12⟩ -- (-9223372036854775808 : Int) ≤ n12 ∧ n12 ≤ (9223372036854775807 : Int)
      refine ⟨by first | omega | (dsimp only; omega), ?_⟩ -- (0 : Int) ≤ (↑v_7 : Int)
      refine ⟨by first | omega | (dsimp only; omega), ?_⟩ -- (↑v_7 : Int) < (↑b.length : Int)
      intro n15
      intro q15 -- n15 = b.getD (↑v_7 : Int).toNat (0 : Int)
      intro ⟨l15, u15⟩ -- (-9223372036854775808 : Int) ≤ n15 ∧ n15 ≤ (9223372036854775807 : Int)
      refine br_intro (fun c4 => ?_) (fun c4 => ?_) -- n12 != n15
      · -- yes
        simp at c4 -- ¬n12 = n15
        -- k (AV.bool false) [] []
        refine hk false ⟨fun c => (by cases c), fun e => ?_⟩
        subst e
        exact absurd (by rw [q12, q15]) c4
      · -- no
        simp at c4 -- n12 = n15
        intro n18
        intro q18 -- n18 = IntKind.i64.wrap ((↑v_7 : Int) + (1 : Int))
        rw [IntKind.wrap_i64] at q18
        intro ⟨l18, u18⟩ -- (-9223372036854775808 : Int) ≤ n18 ∧ n18 ≤ (9223372036854775807 : Int)
        refine ⟨n18.toNat, ?_⟩
        refine ⟨by first | with_reducible rfl | rfl, ?_⟩ -- a = a
        refine ⟨by first | with_reducible rfl | rfl, ?_⟩ -- b = b
        refine ⟨by show n18 = (↑n18.toNat : Int); omega, ?_⟩ -- n18 = (↑n18.toNat : Int)
        refine ⟨?_, ?_⟩
        · -- left
          refine ⟨by show n18.toNat ≤ a.length; omega, ?_⟩ -- n18.toNat ≤ a.length
          refine ⟨by show a.length = b.length; omega, ?_⟩ -- a.length = b.length
          -- eqI a b n18.toNat
          rw [Int.toNat_natCast] at q12 q15
          exact eqi_step h2.2.2 (by omega) (by omega) (by omega) (by rw [← q12, ← q15]; exact c4)
        exact by show a.length - n18.toNat < a.length - v_7; omega -- a.length - n18.toNat < a.length - v_7
    · -- no
      -- k (AV.bool true) [] []
      have e := h2.2.2.e
      rw [List.take_of_length_le (by omega), List.take_of_length_le (by omega)] at e
      exact hk true ⟨fun _ => e, fun _ => rfl⟩

theorem samei_ok : Holds Try.prog 52 sameIS := by
  refine fn_sound (env := mkEnv T0) (tab_ok T0_ok) Try.func52 Try.call52 fun args k h => ?_
  match args, h with
  | [.sl 1 a, .sl 1 b], h => exact ⟨by kernel_rfl, sameILoops a b, fun _ _ => none, .cast (by kernel_rfl) (samei_vc a b k h)⟩
theorem M1_ok : TabOk Try.prog M1 := ⟨small_ok, sin_ok, read_ok, rsmall_ok, rread_ok, rin_ok, trivial⟩
end Go.Proofs.Ytpkfadgennejnaa

