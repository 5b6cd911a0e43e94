import Derived.Test.YtcccenipmefkiaaRaw3
import Derived.Test.YtcccenipmefkiaaRaw5
namespace Go.Proofs.Ytcccenipmefkiaa
open Go Go.Eng Go.Proofs
set_option linter.unusedVariables false

theorem shr_val (n : Int) (m : Nat) (h0 : 0 ≤ n) : n.fdiv ((2 : Int) ^ m) = ((n.toNat / 2 ^ m : Nat) : Int) := by
  obtain ⟨a, rfl⟩ := Int.eq_ofNat_of_zero_le h0
  rw [Int.fdiv_eq_ediv_of_nonneg _ (Int.pow_nonneg (by decide))]
  simp
theorem pow8 (i : Nat) : 2 ^ (8 * i) = 256 ^ i := by rw [Nat.pow_mul]
theorem shr8 (n s : Int) (i : Nat) (h0 : 0 ≤ n) (hi : i < 8) (hs : s = 8 * (i : Int)) : n.fdiv ((2 : Int) ^ min s.toNat IntKind.u64.bits) = ((n.toNat / 256 ^ i : Nat) : Int) := by
  have e : min s.toNat IntKind.u64.bits = 8 * i := by
    show min s.toNat 64 = 8 * i
    omega
  rw [e, shr_val n _ h0, pow8]
theorem putL_succ (n i : Nat) : putL n (i + 1) = putL n i ++ [UInt8.ofNat (n / 256 ^ i)] := by
  simp [putL, List.range_succ]
theorem putL_len (n i : Nat) : (putL n i).length = i := by simp [putL]
theorem ofNat_mod (x : Nat) : UInt8.ofNat (x % 256) = UInt8.ofNat x := by
  apply UInt8.toNat_inj.1
  simp
theorem set_mid (A : List UInt8) (m : Nat) (x : UInt8) (h : 0 < m) : (A ++ List.replicate m (0 : UInt8)).set A.length x = A ++ [x] ++ List.replicate (m - 1) 0 := by
  obtain ⟨m, rfl⟩ : ∃ k, m = k + 1 := ⟨m - 1, by omega⟩
  rw [List.set_append_right _ _ (Nat.le_refl _)]
  simp [List.replicate_succ]

theorem or128_nat : ∀ a, a < 256 → a ||| 128 = a % 128 + 128 := by decide +kernel
theorem or128 (x : Nat) (n2 n3 : Int) (h : n2 = (x : Int) % 256) (q : n3 = bits BinOp.or IntKind.u8 n2 128) : n3.toNat = x % 128 + 128 := by
  have h1 : n2 = ((x % 256 : Nat) : Int) := by omega
  have h2 : (128 : Int) = ((128 : Nat) : Int) := rfl
  rw [q, h1, h2, u8_or_nat (x % 256) 128 (by omega) (by decide), Int.toNat_natCast, or128_nat _ (by omega)]
  omega
theorem small_step (n k : Nat) (h : n < 2 ^ (64 - 7 * k)) (h1 : 127 < n) (hk : k < 10) : k ≤ 8 ∧ n / 128 < 2 ^ (64 - 7 * (k + 1)) := by
  rcases k with _ | _ | _ | _ | _ | _ | _ | _ | _ | _ | k <;> simp at h ⊢ <;> omega

theorem put_vc (n : Int) (w : Int) (h0 : (0 : Int) ≤ n) (h1 : n ≤ (18446744073709551615 : Int)) (k : AV → List (Option Blk) → List Blk → Prop) (hy : putOk n w = true → k (AV.tup [AV.row (0 : Nat) (0 : Nat) (0 : Nat) w.toNat, AV.int IntKind.i64 (0 : Int)]) [] [Blk.row (0 : Nat) (putL n.toNat w.toNat)]) (hn : putOk n w = false → k (AV.tup [AV.nilsl, AV.int IntKind.i64 (2 : Int)]) [] []) :
  ∀ (n1 : Int),
  (n1 = IntKind.i64.wrap ((8 : Int) * w)) →
  (
   (decide (w < (8 : Int)) = true ∧ (bif decide (w < (1 : Int)) then true else decide (w > (8 : Int))) = false) →
   ((0 : Int) ≤ n1)) ∧
  ∀ (n2 : Int),
  (n2 = n.fdiv ((2 : Int) ^ min n1.toNat IntKind.u64.bits)) →
  br (bif bif decide (w < (1 : Int)) then true else decide (w > (8 : Int)) then true else bif decide (w < (8 : Int)) then n2 != (0 : Int) else false)
   ((k (AV.tup [AV.nilsl, AV.int IntKind.i64 (2 : Int)]) [] []))
   ((
     ((0 : Int) ≤ w) ∧
     (w ≤ w) ∧
     (w * (↑(1 : Nat) : Int) ≤ (140737488355328 : Int))) ∧
    (
     ∃ (v : Nat),
     (n = n) ∧
     ((0 : Nat) = (0 : Nat)) ∧
     (w.toNat = w.toNat) ∧
     ((↑w.toNat : Int) = w) ∧
     ((0 : Int) = (↑v : Int)) ∧
     (List.replicate w.toNat (UInt8.ofNat (Int.toNat (0 : Int))) = putL n.toNat v ++ List.replicate (w.toNat - v) (0 : UInt8)) ∧
     (v.le w.toNat)) ∧
    ∀ (v3 : Nat),
    (v3 ≤ w.toNat) →
    br (decide ((↑v3 : Int) < w))
     (∀ (n4 : Int),
      (n4 = IntKind.i64.wrap ((8 : Int) * (↑v3 : Int))) →
      ((-9223372036854775808 : Int) ≤ n4 ∧ n4 ≤ (9223372036854775807 : Int)) →
      ((0 : Int) ≤ n4) ∧
      ∀ (n5 : Int),
      (n5 = n.fdiv ((2 : Int) ^ min n4.toNat IntKind.u64.bits)) →
      ((0 : Int) ≤ n5 ∧ n5 ≤ (18446744073709551615 : Int)) →
      ∀ (n6 : Int),
      (n6 = IntKind.u8.wrap n5) →
      ((0 : Int) ≤ n6 ∧ n6 ≤ (255 : Int)) →
      ((0 : Int) ≤ (↑v3 : Int)) ∧
      ((↑v3 : Int) < (↑w.toNat : Int)) ∧
      ((0 : Nat) + (↑v3 : Int).toNat < (putL n.toNat v3 ++ List.replicate (w.toNat - v3) (0 : UInt8)).length) ∧
      ∀ (z7 : List UInt8),
      (z7 = (putL n.toNat v3 ++ List.replicate (w.toNat - v3) (0 : UInt8)).set ((0 : Nat) + (↑v3 : Int).toNat) (UInt8.ofNat n6.toNat)) →
      ∀ (n8 : Int),
      (n8 = IntKind.i64.wrap ((↑v3 : Int) + (1 : Int))) →
      ((-9223372036854775808 : Int) ≤ n8 ∧ n8 ≤ (9223372036854775807 : Int)) →
      ∃ (v' : Nat),
      (n = n) ∧
      ((0 : Nat) = (0 : Nat)) ∧
      (w.toNat = w.toNat) ∧
      (w = w) ∧
      (n8 = (↑v' : Int)) ∧
      (z7 = putL n.toNat v' ++ List.replicate (w.toNat - v') (0 : UInt8)) ∧
      (v' ≤ w.toNat) ∧
      (w.toNat - v' < w.toNat - v3))
     ((k (AV.tup [AV.row (0 : Nat) (0 : Nat) (0 : Nat) w.toNat, AV.int IntKind.i64 (0 : Int)]) [] [Blk.row (0 : Nat) (putL n.toNat v3 ++ List.replicate (w.toNat - v3) (0 : UInt8))]))) := by
  intro n1
  intro q1 -- n1 = IntKind.i64.wrap ((8 : Int) * w)
  rw [IntKind.wrap_i64] at q1
  refine ⟨?_, ?_⟩
  · -- left
    intro ⟨l1, u1⟩ -- decide (w < (8 : Int)) = true ∧ (bif decide (w < (1 : Int)) then true else decide (w > (8 : Int))) = false
    -- (0 : Int) ≤ n1
    simp at l1 u1
    omega
  intro n2
  intro q2 -- n2 = n.fdiv ((2 : Int) ^ min n1.toNat IntKind.u64.bits)
  refine br_intro (fun c1 => ?_) (fun c1 => ?_) -- bif bif decide (w < (1 : Int)) then true else decide (w > (8 : Int)) then true else bif decide (w < (8 : Int)) then n2 != (0 : Int) else false
  · -- yes
    -- k (AV.tup [AV.nilsl, AV.int IntKind.i64 (2 : Int)]) [] []
    refine hn ?_
    rw [← Bool.not_eq_true]
    intro hc
    unfold putOk at hc
    simp only [decide_eq_true_eq] at hc
    obtain ⟨w1, w2, w3⟩ := hc
    simp at c1
    rcases c1 with c1 | c1
    · omega
    · obtain ⟨c2, c3⟩ := c1
      apply c3
      rw [q2, shr8 n n1 w.toNat h0 (by omega) (by omega), Nat.div_eq_of_lt w3]
      rfl
  · -- no
    refine ⟨?_, ?_⟩
    · -- left
      have h2 : (0 : Int) ≤ w := by
        simp at c1; omega
      refine ⟨h2, ?_⟩
      refine ⟨by omega, ?_⟩ -- w ≤ w
      -- w * (↑(1 : Nat) : Int) ≤ (140737488355328 : Int)
      simp at c1; omega
    refine ⟨?_, ?_⟩
    · -- left
      refine ⟨(0 : Nat), ?_⟩
      refine ⟨by first | with_reducible rfl | rfl, ?_⟩ -- n = n
      refine ⟨by first | with_reducible rfl | rfl, ?_⟩ -- (0 : Nat) = (0 : Nat)
      refine ⟨by first | with_reducible rfl | rfl, ?_⟩ -- w.toNat = w.toNat
      have h3 : (↑w.toNat : Int) = w := by
        simp at c1; omega
      refine ⟨h3, ?_⟩
      refine ⟨by show (0 : Int) = (↑(0 : Nat) : Int); omega, ?_⟩ -- (0 : Int) = (↑(0 : Nat) : Int)
      refine ⟨by rfl, ?_⟩ -- List.replicate w.toNat (UInt8.ofNat (Int.toNat (0 : Int))) = putL n.toNat (0 : Nat) ++ List.replicate (w.toNat - (0 : Nat)) (0 : UInt8)
      -- Nat.le (0 : Nat) w.toNat
      exact Nat.zero_le _
    intro v3
    intro h4 -- v3 ≤ w.toNat
    refine brd (fun c5 => ?_) (fun c5 => ?_) -- decide ((↑v3 : Int) < w)
    · -- yes
      intro n4
      intro q4 -- n4 = IntKind.i64.wrap ((8 : Int) * (↑v3 : Int))
      rw [IntKind.wrap_i64] at q4
      intro ⟨l4, u4⟩ -- (-9223372036854775808 : Int) ≤ n4 ∧ n4 ≤ (9223372036854775807 : Int)
      have h6 : (0 : Int) ≤ n4 := by
        simp at c1; omega
      refine ⟨h6, ?_⟩
      intro n5
      intro q5 -- n5 = n.fdiv ((2 : Int) ^ min n4.toNat IntKind.u64.bits)
      intro ⟨l5, u5⟩ -- (0 : Int) ≤ n5 ∧ n5 ≤ (18446744073709551615 : Int)
      intro n6
      intro q6 -- n6 = IntKind.u8.wrap n5
      rw [IntKind.wrap_u8] at q6
      intro ⟨l6, u6⟩ -- (0 : Int) ≤ n6 ∧ n6 ≤ (255 : Int)
      refine ⟨by omega, ?_⟩ -- (0 : Int) ≤ (↑v3 : Int)
      refine ⟨by omega, ?_⟩ -- (↑v3 : Int) < (↑w.toNat : Int)
      have h7 : (0 : Nat) + (↑v3 : Int).toNat < (putL n.toNat v3 ++ List.replicate (w.toNat - v3) (0 : UInt8)).length := by
        simp [putL]; omega
      refine ⟨h7, ?_⟩
      intro z7
      intro qz7 -- z7 = (putL n.toNat v3 ++ List.replicate (w.toNat - v3) (0 : UInt8)).set ((0 : Nat) + (↑v3 : Int).toNat) (UInt8.ofNat n6.toNat)
      intro n8
      intro q8 -- n8 = IntKind.i64.wrap ((↑v3 : Int) + (1 : Int))
      rw [IntKind.wrap_i64] at q8
      intro ⟨l8, u8⟩ -- (-9223372036854775808 : Int) ≤ n8 ∧ n8 ≤ (9223372036854775807 : Int)
      refine ⟨v3 + (1 : Nat), ?_⟩
      refine ⟨by first | with_reducible rfl | rfl, ?_⟩ -- n = n
      refine ⟨by first | with_reducible rfl | rfl, ?_⟩ -- (0 : Nat) = (0 : Nat)
      refine ⟨by first | with_reducible rfl | rfl, ?_⟩ -- w.toNat = w.toNat
      refine ⟨by first | with_reducible rfl | rfl, ?_⟩ -- w = w
      have h8 : n8 = (↑(v3 + (1 : Nat)) : Int) := by
        simp at c1
        omega
      refine ⟨h8, ?_⟩
      have h9 : z7 = putL n.toNat (v3 + (1 : Nat)) ++ List.replicate (w.toNat - (v3 + (1 : Nat))) (0 : UInt8) := by
        have hw8 : w ≤ 8 := by simp at c1; omega
        have e5 : n5 = ((n.toNat / 256 ^ v3 : Nat) : Int) := by rw [q5]; exact shr8 n n4 v3 h0 (by omega) (by omega)
        have e6 : n6.toNat = (n.toNat / 256 ^ v3) % 256 := by rw [q6, e5]; omega
        have := set_mid (putL n.toNat v3) (w.toNat - v3) (UInt8.ofNat (n.toNat / 256 ^ v3)) (by omega)
        rw [putL_len] at this
        rw [qz7, e6, ofNat_mod, putL_succ, Int.toNat_natCast, Nat.zero_add, this, Nat.sub_sub]
      refine ⟨h9, ?_⟩
      refine ⟨by show v3 + (1 : Nat) ≤ w.toNat; omega, ?_⟩ -- v3 + (1 : Nat) ≤ w.toNat
      exact by show w.toNat - (v3 + (1 : Nat)) < w.toNat - v3; omega -- w.toNat - (v3 + (1 : Nat)) < w.toNat - v3
    · -- no
      -- k (AV.tup [AV.row (0 : Nat) (0 : Nat) (0 : Nat) w.toNat, AV.int IntKind.i64 (0 : Int)]) [] [Blk.row (0 : Nat) (putL n.toNat v3 ++ List.replicate (w.toNat - v3) (0 : UInt8))]
      have e : v3 = w.toNat := by omega
      subst e
      simp only [Nat.sub_self, List.replicate_zero, List.append_nil]
      refine hy ?_
      unfold putOk
      simp at c1
      simp only [decide_eq_true_eq]
      refine ⟨by omega, by omega, ?_⟩
      rcases Int.lt_or_le w 8 with h | h
      · have := c1.2 h
        rw [q2, shr8 n n1 w.toNat h0 (by omega) (by omega)] at this
        have h3 : n.toNat / 256 ^ w.toNat = 0 := by omega
        rcases Nat.div_eq_zero_iff.1 h3 with h4 | h4
        · exact absurd h4 (Nat.pos_iff_ne_zero.1 (Nat.pow_pos (by decide)))
        · exact h4
      · have : w.toNat = 8 := by omega
        rw [this]
        show n.toNat < 18446744073709551616
        omega


theorem small_vc (n : Int) (h0 : (0 : Int) ≤ n) (h1 : n ≤ (18446744073709551615 : Int)) (k : AV → List (Option Blk) → List Blk → Prop) (hk : k (AV.row (0 : Nat) (0 : Nat) (0 : Nat) (smallL n.toNat).length) [] [Blk.row (0 : Nat) (smallL n.toNat)]) :
  (
   ∃ (v : Nat × List UInt8),
   (n = (↑v.fst : Int)) ∧
   ((0 : Nat) = (0 : Nat)) ∧
   ((0 : Nat) = v.snd.length) ∧
   ([] = v.snd) ∧
   (v.snd.length < (10 : Nat)) ∧
   (v.fst < (2 : Nat) ^ ((64 : Nat) - (7 : Nat) * v.snd.length)) ∧
   (v.snd ++ smallF ((10 : Nat) - v.snd.length) v.fst = smallL n.toNat)) ∧
  ∀ (v1 : Nat × List UInt8),
  (v1.snd.length < (10 : Nat) ∧ v1.fst < (2 : Nat) ^ ((64 : Nat) - (7 : Nat) * v1.snd.length) ∧ v1.snd ++ smallF ((10 : Nat) - v1.snd.length) v1.fst = smallL n.toNat) →
  br (decide ((↑v1.fst : Int) > (127 : Int)))
   (∀ (n2 : Int),
    (n2 = IntKind.u8.wrap (↑v1.fst : Int)) →
    ((0 : Int) ≤ n2 ∧ n2 ≤ (255 : Int)) →
    ∀ (n3 : Int),
    (n3 = bits BinOp.or IntKind.u8 n2 (128 : Int)) →
    ((0 : Int) ≤ n3 ∧ n3 ≤ (255 : Int)) →
    ((v1.snd.length + (1 : Nat)) * (1 : Nat) ≤ (140737488355328 : Nat)) ∧
    ∀ (z4 : List UInt8),
    (z4 = List.take v1.snd.length v1.2 ++ UInt8.ofNat n3.toNat :: List.take (0 : Nat) []) →
    ((0 : Int) ≤ (7 : Int)) ∧
    ∀ (n5 : Int),
    (n5 = (↑v1.fst : Int).fdiv ((2 : Int) ^ min (Int.toNat (7 : Int)) IntKind.u64.bits)) →
    ((0 : Int) ≤ n5 ∧ n5 ≤ (18446744073709551615 : Int)) →
    ∃ (v' : Nat × List UInt8),
    (n5 = (↑v'.fst : Int)) ∧
    ((0 : Nat) = (0 : Nat)) ∧
    (v1.snd.length + (1 : Nat) = v'.snd.length) ∧
    (z4 = v'.snd) ∧
    (
     (v'.snd.length < (10 : Nat)) ∧
     (v'.fst < (2 : Nat) ^ ((64 : Nat) - (7 : Nat) * v'.snd.length)) ∧
     (v'.snd ++ smallF ((10 : Nat) - v'.snd.length) v'.fst = smallL n.toNat)) ∧
    ((10 : Nat) - v'.snd.length < (10 : Nat) - v1.snd.length))
   (∀ (n6 : Int),
    (n6 = IntKind.u8.wrap (↑v1.fst : Int)) →
    ((0 : Int) ≤ n6 ∧ n6 ≤ (255 : Int)) →
    ((v1.snd.length + (1 : Nat)) * (1 : Nat) ≤ (140737488355328 : Nat)) ∧
    ∀ (z7 : List UInt8),
    (z7 = List.take v1.snd.length v1.2 ++ UInt8.ofNat n6.toNat :: List.take (0 : Nat) []) →
    (k (AV.row (0 : Nat) (0 : Nat) (0 : Nat) (v1.snd.length + (1 : Nat))) [] [Blk.row (0 : Nat) z7])) := by
  refine ⟨?_, ?_⟩
  · -- left
    refine ⟨(n.toNat, []), ?_⟩
    refine ⟨by show n = (↑n.toNat : Int); omega, ?_⟩ -- n = (↑n.toNat : Int)
    refine ⟨by first | with_reducible rfl | rfl, ?_⟩ -- (0 : Nat) = (0 : Nat)
    refine ⟨by first | with_reducible rfl | rfl, ?_⟩ -- (0 : Nat) = (0 : Nat)
    refine ⟨by first | with_reducible rfl | rfl, ?_⟩ -- [] = []
    refine ⟨by show (0 : Nat) < (10 : Nat); omega, ?_⟩ -- (0 : Nat) < (10 : Nat)
    refine ⟨by show n.toNat < (2 : Nat) ^ ((64 : Nat) - (7 : Nat) * (0 : Nat)); omega, ?_⟩ -- n.toNat < (2 : Nat) ^ ((64 : Nat) - (7 : Nat) * (0 : Nat))
    exact by rfl -- [] ++ smallF ((10 : Nat) - (0 : Nat)) n.toNat = smallL n.toNat
  intro v1
  intro h1 -- v1.snd.length < (10 : Nat) ∧ v1.fst < (2 : Nat) ^ ((64 : Nat) - (7 : Nat) * v1.snd.length) ∧ v1.snd ++ smallF ((10 : Nat) - v1.snd.length) v1.fst = smallL n.toNat
  refine brd (fun c2 => ?_) (fun c2 => ?_) -- decide ((↑v1.fst : Int) > (127 : Int))
  · -- yes
    intro n2
    intro q2 -- n2 = IntKind.u8.wrap (↑v1.fst : Int)
    rw [IntKind.wrap_u8] at q2
    intro ⟨l2, u2⟩ -- (0 : Int) ≤ n2 ∧ n2 ≤ (255 : Int)
    intro n3
    intro q3 -- n3 = bits BinOp.or IntKind.u8 n2 (128 : Int)
    intro ⟨l3, u3⟩ -- (0 : Int) ≤ n3 ∧ n3 ≤ (255 : Int)
    refine ⟨by omega, ?_⟩ -- (v1.snd.length + (1 : Nat)) * (1 : Nat) ≤ (140737488355328 : Nat)
    intro z4
    intro qz4 -- z4 = List.take v1.snd.length v1.2 ++ UInt8.ofNat n3.toNat :: List.take (0 : Nat) []
    refine ⟨by omega, ?_⟩ -- (0 : Int) ≤ (7 : Int)
    intro n5
    intro q5 -- n5 = (↑v1.fst : Int).fdiv ((2 : Int) ^ min (Int.toNat (7 : Int)) IntKind.u64.bits)
    rw [show (2 : Int) ^ min (Int.toNat (7 : Int)) IntKind.u64.bits = 128 from rfl, Int.fdiv_eq_ediv_of_nonneg _ (by decide)] at q5
    intro ⟨l5, u5⟩ -- (0 : Int) ≤ n5 ∧ n5 ≤ (18446744073709551615 : Int)
    refine ⟨(n5.toNat, z4), ?_⟩
    refine ⟨by show n5 = (↑n5.toNat : Int); omega, ?_⟩ -- n5 = (↑n5.toNat : Int)
    refine ⟨by first | with_reducible rfl | rfl, ?_⟩ -- (0 : Nat) = (0 : Nat)
    have h3 : v1.snd.length + (1 : Nat) = z4.length := by
      rw [qz4]; simp
    refine ⟨h3, ?_⟩
    refine ⟨by first | with_reducible rfl | rfl, ?_⟩ -- z4 = z4
    refine ⟨?_, ?_⟩
    · -- left
      have h4 : z4.length < (10 : Nat) := by
        have := (small_step v1.fst v1.snd.length h1.2.1 (by omega) h1.1).1
        omega
      refine ⟨h4, ?_⟩
      have h5 : n5.toNat < (2 : Nat) ^ ((64 : Nat) - (7 : Nat) * z4.length) := by
        have := (small_step v1.fst v1.snd.length h1.2.1 (by omega) h1.1).2
        rw [← h3]
        have e : n5.toNat = v1.fst / 128 := by omega
        rw [e]; exact this
      refine ⟨h5, ?_⟩
      -- z4 ++ smallF ((10 : Nat) - z4.length) n5.toNat = smallL n.toNat
      have e5 : n5.toNat = v1.fst / 128 := by omega
      have e3 := or128 v1.fst n2 n3 q2 q3
      rw [← h1.2.2, ← h3, e5, qz4, e3]
      have e : 10 - v1.snd.length = (10 - (v1.snd.length + 1)) + 1 := by omega
      rw [e]
      have hF : smallF (10 - (v1.snd.length + 1) + 1) v1.fst = UInt8.ofNat (v1.fst % 128 + 128) :: smallF (10 - (v1.snd.length + 1)) (v1.fst / 128) := by
        rw [smallF, if_neg (by omega)]
      rw [hF]
      simp
    exact by show (10 : Nat) - z4.length < (10 : Nat) - v1.snd.length; omega -- (10 : Nat) - z4.length < (10 : Nat) - v1.snd.length
  · -- no
    intro n6
    intro q6 -- n6 = IntKind.u8.wrap (↑v1.fst : Int)
    rw [IntKind.wrap_u8] at q6
    intro ⟨l6, u6⟩ -- (0 : Int) ≤ n6 ∧ n6 ≤ (255 : Int)
    refine ⟨by omega, ?_⟩ -- (v1.snd.length + (1 : Nat)) * (1 : Nat) ≤ (140737488355328 : Nat)
    intro z7
    intro qz7 -- z7 = List.take v1.snd.length v1.2 ++ UInt8.ofNat n6.toNat :: List.take (0 : Nat) []
    -- k (AV.row (0 : Nat) (0 : Nat) (0 : Nat) (v1.snd.length + (1 : Nat))) [] [Blk.row (0 : Nat) z7]
    have e : 10 - v1.snd.length = (9 - v1.snd.length) + 1 := by omega
    have hF : smallF (10 - v1.snd.length) v1.fst = [UInt8.ofNat v1.fst] := by
      rw [e, smallF, if_pos (by omega)]
    have e6 : n6.toNat = v1.fst := by omega
    have ez : z7 = smallL n.toNat := by
      rw [qz7, ← h1.2.2, hF, e6]; simp
    have el : v1.snd.length + 1 = (smallL n.toNat).length := by
      rw [← h1.2.2, hF]; simp
    rw [ez, el]; exact hk


theorem put_fn (n w : Int) (h0 : 0 ≤ n) (h1 : n ≤ 18446744073709551615) (k : AV → List (Option Blk) → List Blk → Prop) (hy : putOk n w = true → k (.tup [.row 0 0 0 w.toNat, .int .i64 0]) [] [.row 0 (putL n.toNat w.toNat)]) (hn : putOk n w = false → k (.tup [.nilsl, .int .i64 2]) [] []) :
    Ok (fnVC { base with loops := putLoops n w, cuts := fun _ _ => none } true Try.f14 [.int .u64 n, .int .i64 w] k) := .cast (by kernel_rfl) (put_vc n w h0 h1 k hy hn)
theorem br_out {b : Bool} {A B : Prop} (h : br b A B) : (b = true → A) ∧ (b = false → B) := by
  cases b
  · exact ⟨fun e => (by cases e), fun _ => h⟩
  · exact ⟨fun _ => h, fun e => (by cases e)⟩
theorem put_ok : Holds base.P 14 putS := by
  refine fn_sound (env := base) (fun _ _ h => by cases h) Try.func14 Try.call14 fun args k h => ?_
  match args, h with
  | [.int .u64 n, .int .i64 w], h => exact ⟨by kernel_rfl, putLoops n w, fun _ _ => none, put_fn n w h.1.1 h.1.2 k (br_out h.2).1 (br_out h.2).2⟩
theorem small_fn (n : Int) (h0 : 0 ≤ n) (h1 : n ≤ 18446744073709551615) (k : AV → List (Option Blk) → List Blk → Prop) (hk : k (.row 0 0 0 (smallL n.toNat).length) [] [.row 0 (smallL n.toNat)]) :
    Ok (fnVC { base with loops := smallLoops n, cuts := fun _ _ => none } true Try.f13 [.int .u64 n] k) := .cast (by kernel_rfl) (small_vc n h0 h1 k hk)
theorem small_ok : Holds base.P 13 smallS := by
  refine fn_sound (env := base) (fun _ _ h => by cases h) Try.func13 Try.call13 fun args k h => ?_
  match args, h with
  | [.int .u64 n], h => exact ⟨by kernel_rfl, smallLoops n, fun _ _ => none, small_fn n h.1.1 h.1.2 k h.2⟩

theorem same3_vc (xs : List UInt8) (ys : List UInt8) (k : AV → List (Option Blk) → List Blk → Prop) (hk : k (AV.bool (eqB xs ys)) [] []) :
  (k (AV.bool ({ data := xs.toArray : ByteArray }.toList == { data := ys.toArray : ByteArray }.toList)) [] []) := by
  -- k (AV.bool ({ data := xs.toArray : ByteArray }.toList == { data := ys.toArray : ByteArray }.toList)) [] []
  simpa [toList_mk, eqB] using hk


theorem alive_vc (k : AV → List (Option Blk) → List Blk → Prop) (hk : k (AV.bool true) [] []) :
  (
   ((0 : Int) ≤ (258 : Int)) ∧
   ((258 : Int) ≤ (18446744073709551615 : Int))) ∧
  ((0 : Nat) < (9 : Nat)) ∧
  ((List.take (9 : Nat) (List.drop (0 : Nat) [UInt8.ofNat (Int.toNat (49 : Int)), UInt8.ofNat (Int.toNat (50 : Int)), UInt8.ofNat (Int.toNat (51 : Int)), UInt8.ofNat (Int.toNat (52 : Int)), UInt8.ofNat (Int.toNat (53 : Int)), UInt8.ofNat (Int.toNat (54 : Int)), UInt8.ofNat (Int.toNat (55 : Int)), UInt8.ofNat (Int.toNat (56 : Int)), UInt8.ofNat (Int.toNat (57 : Int))])).length ≤ (1000000 : Nat)) ∧
  (k (AV.bool (bif true then (↑(crcN (List.take (9 : Nat) (List.drop (0 : Nat) [UInt8.ofNat (Int.toNat (49 : Int)), UInt8.ofNat (Int.toNat (50 : Int)), UInt8.ofNat (Int.toNat (51 : Int)), UInt8.ofNat (Int.toNat (52 : Int)), UInt8.ofNat (Int.toNat (53 : Int)), UInt8.ofNat (Int.toNat (54 : Int)), UInt8.ofNat (Int.toNat (55 : Int)), UInt8.ofNat (Int.toNat (56 : Int)), UInt8.ofNat (Int.toNat (57 : Int))])) ^^^ (4294967295 : Nat)) : Int) == (3421780262 : Int) else false)) [] []) := by
  refine ⟨?_, ?_⟩
  · -- left
    refine ⟨by omega, ?_⟩ -- (0 : Int) ≤ (258 : Int)
    exact by omega -- (258 : Int) ≤ (18446744073709551615 : Int)
  refine ⟨by omega, ?_⟩ -- (0 : Nat) < (9 : Nat)
  refine ⟨by decide, ?_⟩ -- (List.take (9 : Nat) (List.drop (0 : Nat) [UInt8.ofNat (Int.toNat (49 : Int)), UInt8.ofNat (Int.toNat (50 : Int)), UInt8.ofNat (Int.toNat (51 : Int)), UInt8.ofNat (Int.toNat (52 : Int)), UInt8.ofNat (Int.toNat (53 : Int)), UInt8.ofNat (Int.toNat (54 : Int)), UInt8.ofNat (Int.toNat (55 : Int)), UInt8.ofNat (Int.toNat (56 : Int)), UInt8.ofNat (Int.toNat (57 : Int))])).length ≤ (1000000 : Nat)
  exact by assumption -- k (AV.bool (bif true then (↑(crcN (List.take (9 : Nat) (List.drop (0 : Nat) [UInt8.ofNat (Int.toNat (49 : Int)), UInt8.ofNat (Int.toNat (50 : Int)), UInt8.ofNat (Int.toNat (51 : Int)), UInt8.ofNat (Int.toNat (52 : Int)), UInt8.ofNat (Int.toNat (53 : Int)), UInt8.ofNat (Int.toNat (54 : Int)), UInt8.ofNat (Int.toNat (55 : Int)), UInt8.ofNat (Int.toNat (56 : Int)), UInt8.ofNat (Int.toNat (57 : Int))])) ^^^ (4294967295 : Nat)) : Int) == (3421780262 : Int) else false)) [] []


theorem same3_fn (xs ys : List UInt8) (k : AV → List (Option Blk) → List Blk → Prop) (hk : k (.bool (eqB xs ys)) [] []) :
    Ok (fnVC { base with loops := fun _ _ => none, cuts := fun _ _ => none } true Try.f21 [.sl 0 xs, .sl 0 ys] k) := .cast (by kernel_rfl) (same3_vc xs ys k hk)
theorem same3_ok : Holds base.P 21 sameS := by
  refine fn_sound (env := base) (fun _ _ h => by cases h) Try.func21 Try.call21 fun args k h => ?_
  match args, h with
  | [.sl 0 xs, .sl 0 ys], h => exact ⟨by kernel_rfl, _, fun _ _ => none, same3_fn xs ys k h⟩
theorem base2_ok : ∀ f s, base2.spec f = some s → Holds base2.P f s := by
  intro f s h
  simp only [base2] at h
  split at h
  · cases h; exact sum_ok
  · cases h; exact refSum_ok
  · cases h; exact same_ok
  · cases h; exact put_ok
  · cases h; exact same3_ok
  · cases h
theorem alive_fn (k : AV → List (Option Blk) → List Blk → Prop) (hk : k (.bool true) [] []) :
    Ok (fnVC { base2 with loops := fun _ _ => none, cuts := fun _ _ => none } true Try.f12 [] k) := .cast (by kernel_rfl) (alive_vc k hk)
theorem alive_ok : Holds base.P 12 aliveS := by
  refine fn_sound (env := base2) base2_ok Try.func12 Try.call12 fun args k h => ?_
  match args, h with
  | [], h => exact ⟨by kernel_rfl, _, fun _ _ => none, alive_fn k h⟩
theorem base3_ok : ∀ f s, base3.spec f = some s → Holds base3.P f s := by
  intro f s h
  simp only [base3] at h
  split at h
  · cases h; exact alive_ok
  · cases h; exact small_ok
  · cases h; exact put_ok
  · cases h; exact same3_ok
  · cases h

end Go.Proofs.Ytcccenipmefkiaa
