import Derived.Test.YtcccenipmefkiaaRaw9
namespace Go.Proofs.Ytcccenipmefkiaa
open Go Go.Eng Go.Proofs
set_option linter.unusedVariables false

theorem getL_append (a : List UInt8) (x : UInt8) : getL (a ++ [x]) = getL a + x.toNat * 256 ^ a.length := by
  induction a with
  | nil => simp [getL]
  | cons y r ih =>
    simp only [List.cons_append, getL, ih, List.length_cons, Nat.pow_succ]
    rw [Nat.mul_add, ← Nat.add_assoc, Nat.mul_comm (256 ^ r.length) 256, Nat.mul_left_comm]
theorem getL_lt (a : List UInt8) : getL a < 256 ^ a.length := by
  induction a with
  | nil => simp [getL]
  | cons y r ih =>
    have := y.toNat_lt
    simp only [getL, List.length_cons, Nat.pow_succ]
    omega
theorem or64 (a b i : Nat) (ha : a < 2 ^ i) (hb : b * 2 ^ i + a < 18446744073709551616) : bits BinOp.or IntKind.u64 (a : Int) ((b * 2 ^ i : Nat) : Int) = ((a + b * 2 ^ i : Nat) : Int) := by
  rw [u64_or_nat a _ (by omega) (by omega), Nat.or_comm, Nat.mul_comm b, ← Nat.two_pow_add_eq_or_of_lt ha b, Nat.add_comm]
theorem shl_val (x i : Nat) (s : Int) (b : Nat) (hs : s = (i : Int)) (hi : i ≤ b) (hx : x * 2 ^ i < 18446744073709551616) : (x : Int) * (2 : Int) ^ min s.toNat b % 18446744073709551616 = ((x * 2 ^ i : Nat) : Int) := by
  have e : min s.toNat b = i := by omega
  have e2 : (x : Int) * (2 : Int) ^ i = ((x * 2 ^ i : Nat) : Int) := by simp
  rw [e, e2]
  omega
theorem byte_room (x i : Nat) (hx : x ≤ 255) (hi : i < 8) : x * 2 ^ (8 * i) + 2 ^ (8 * i) ≤ 18446744073709551616 := by
  rcases i with _ | _ | _ | _ | _ | _ | _ | _ | i <;> first | omega | simp <;> omega

theorem get_vc (xs : List UInt8) (k : AV → List (Option Blk) → List Blk → Prop) (hy : getOk xs = true → k (AV.tup [AV.int IntKind.u64 (↑(getL xs) : Int), AV.int IntKind.i64 (0 : Int)]) [] []) (hn : getOk xs = false → k (AV.tup [AV.int IntKind.u64 (0 : Int), AV.int IntKind.i64 (8 : Int)]) [] []) :
  br (bif decide ((↑xs.length : Int) < (1 : Int)) then true else decide ((↑xs.length : Int) > (8 : Int)))
   ((k (AV.tup [AV.int IntKind.u64 (0 : Int), AV.int IntKind.i64 (8 : Int)]) [] []))
   ((
     ∃ (v : Nat),
     ((0 : Int) = (↑(getL (List.take v xs)) : Int)) ∧
     (xs = xs) ∧
     ((↑xs.length : Int) = (↑xs.length : Int)) ∧
     ((0 : Int) = (↑v : Int)) ∧
     (v ≤ xs.length) ∧
     (xs.length ≤ (8 : Nat))) ∧
    ∀ (v1 : Nat),
    (v1 ≤ xs.length ∧ xs.length ≤ (8 : Nat)) →
    br (decide ((↑v1 : Int) < (↑xs.length : Int)))
     (((0 : Int) ≤ (↑v1 : Int)) ∧
      ((↑v1 : Int) < (↑xs.length : Int)) ∧
      ∀ (n2 : Int),
      (n2 = (↑(xs.getD (↑v1 : Int).toNat (0 : UInt8)).toNat : Int)) →
      ((0 : Int) ≤ n2 ∧ n2 ≤ (255 : Int)) →
      ∀ (n3 : Int),
      (n3 = IntKind.u64.wrap n2) →
      ((0 : Int) ≤ n3 ∧ n3 ≤ (18446744073709551615 : Int)) →
      ∀ (n4 : Int),
      (n4 = IntKind.i64.wrap ((8 : Int) * (↑v1 : Int))) →
      ((-9223372036854775808 : Int) ≤ n4 ∧ n4 ≤ (9223372036854775807 : Int)) →
      ((0 : Int) ≤ n4) ∧
      ∀ (n5 : Int),
      (n5 = IntKind.u64.wrap (n3 * (2 : Int) ^ min n4.toNat IntKind.u64.bits)) →
      ((0 : Int) ≤ n5 ∧ n5 ≤ (18446744073709551615 : Int)) →
      ∀ (n6 : Int),
      (n6 = bits BinOp.or IntKind.u64 (↑(getL (List.take v1 xs)) : Int) n5) →
      ((0 : Int) ≤ n6 ∧ n6 ≤ (18446744073709551615 : Int)) →
      ∀ (n7 : Int),
      (n7 = IntKind.i64.wrap ((↑v1 : Int) + (1 : Int))) →
      ((-9223372036854775808 : Int) ≤ n7 ∧ n7 ≤ (9223372036854775807 : Int)) →
      ∃ (v' : Nat),
      (n6 = (↑(getL (List.take v' xs)) : Int)) ∧
      (xs = xs) ∧
      ((↑xs.length : Int) = (↑xs.length : Int)) ∧
      (n7 = (↑v' : Int)) ∧
      (
       (v' ≤ xs.length) ∧
       (xs.length ≤ (8 : Nat))) ∧
      (xs.length - v' < xs.length - v1))
     ((k (AV.tup [AV.int IntKind.u64 (↑(getL (List.take v1 xs)) : Int), AV.int IntKind.i64 (0 : Int)]) [] []))) := by
  refine br_intro (fun c1 => ?_) (fun c1 => ?_) -- bif decide ((↑xs.length : Int) < (1 : Int)) then true else decide ((↑xs.length : Int) > (8 : Int))
  · -- yes
    -- k (AV.tup [AV.int IntKind.u64 (0 : Int), AV.int IntKind.i64 (8 : Int)]) [] []
    refine hn ?_
    simp at c1
    unfold getOk
    rw [decide_eq_false_iff_not]
    omega
  · -- no
    refine ⟨?_, ?_⟩
    · -- left
      refine ⟨(0 : Nat), ?_⟩
      refine ⟨by rfl, ?_⟩ -- (0 : Int) = (↑(getL (List.take (0 : Nat) xs)) : Int)
      refine ⟨by first | with_reducible rfl | rfl, ?_⟩ -- xs = xs
      refine ⟨by first | with_reducible rfl | rfl, ?_⟩ -- (↑xs.length : Int) = (↑xs.length : Int)
      refine ⟨by show (0 : Int) = (↑(0 : Nat) : Int); omega, ?_⟩ -- (0 : Int) = (↑(0 : Nat) : Int)
      refine ⟨by show (0 : Nat) ≤ xs.length; omega, ?_⟩ -- (0 : Nat) ≤ xs.length
      -- xs.length ≤ (8 : Nat)
      simp at c1; omega
    intro v1
    intro ⟨a2, b2⟩ -- v1 ≤ xs.length ∧ xs.length ≤ (8 : Nat)
    refine brd (fun c3 => ?_) (fun c3 => ?_) -- decide ((↑v1 : Int) < (↑xs.length : Int))
    · -- yes
      refine ⟨by omega, ?_⟩ -- (0 : Int) ≤ (↑v1 : Int)
      refine ⟨by assumption, ?_⟩ -- (↑v1 : Int) < (↑xs.length : Int)
      intro n2
      intro q2 -- n2 = (↑(xs.getD (↑v1 : Int).toNat (0 : UInt8)).toNat : Int)
      intro ⟨l2, u2⟩ -- (0 : Int) ≤ n2 ∧ n2 ≤ (255 : Int)
      intro n3
      intro q3 -- n3 = IntKind.u64.wrap n2
      rw [IntKind.wrap_u64] at q3
      intro ⟨l3, u3⟩ -- (0 : Int) ≤ n3 ∧ n3 ≤ (18446744073709551615 : Int)
      intro n4
      intro q4 -- n4 = IntKind.i64.wrap ((8 : Int) * (↑v1 : Int))
      rw [IntKind.wrap_i64] at q4
      intro ⟨l4, u4⟩ -- (-9223372036854775808 : Int) ≤ n4 ∧ n4 ≤ (9223372036854775807 : Int)
      refine ⟨by omega, ?_⟩ -- (0 : Int) ≤ n4
      intro n5
      intro q5 -- n5 = IntKind.u64.wrap (n3 * (2 : Int) ^ min n4.toNat IntKind.u64.bits)
      rw [IntKind.wrap_u64] at q5
      intro ⟨l5, u5⟩ -- (0 : Int) ≤ n5 ∧ n5 ≤ (18446744073709551615 : Int)
      intro n6
      intro q6 -- n6 = bits BinOp.or IntKind.u64 (↑(getL (List.take v1 xs)) : Int) n5
      intro ⟨l6, u6⟩ -- (0 : Int) ≤ n6 ∧ n6 ≤ (18446744073709551615 : Int)
      intro n7
      intro q7 -- n7 = IntKind.i64.wrap ((↑v1 : Int) + (1 : Int))
      rw [IntKind.wrap_i64] at q7
      intro ⟨l7, u7⟩ -- (-9223372036854775808 : Int) ≤ n7 ∧ n7 ≤ (9223372036854775807 : Int)
      refine ⟨v1 + (1 : Nat), ?_⟩
      have h4 : n6 = (↑(getL (List.take (v1 + (1 : Nat)) xs)) : Int) := by
        have e3 : n3 = (((xs.getD v1 0).toNat : Nat) : Int) := by
          have : n2 = (((xs.getD v1 0).toNat : Nat) : Int) := by rw [q2]; rfl
          omega
        have hx : (xs.getD v1 0).toNat ≤ 255 := by omega
        have room := byte_room (xs.getD v1 0).toNat v1 hx (by omega)
        have hlt : getL (List.take v1 xs) < 2 ^ (8 * v1) := by
          have := getL_lt (List.take v1 xs)
          rw [List.length_take, Nat.min_eq_left a2, ← pow8] at this
          exact this
        have e5 : n5 = (((xs.getD v1 0).toNat * 2 ^ (8 * v1) : Nat) : Int) := by
          rw [q5, e3]
          exact shl_val _ (8 * v1) n4 _ (by omega) (by show 8 * v1 ≤ 64; omega) (by omega)
        rw [q6, e5, or64 _ _ _ hlt (by omega), List.take_succ_eq_append_getElem (by omega), getL_append, List.length_take, Nat.min_eq_left a2, ← pow8]
        have : xs.getD v1 0 = xs[v1] := by simp [List.getD, show v1 < xs.length by omega]
        rw [this]
      refine ⟨h4, ?_⟩
      refine ⟨by first | with_reducible rfl | rfl, ?_⟩ -- xs = xs
      refine ⟨by first | with_reducible rfl | rfl, ?_⟩ -- (↑xs.length : Int) = (↑xs.length : Int)
      refine ⟨by show n7 = (↑(v1 + (1 : Nat)) : Int); omega, ?_⟩ -- n7 = (↑(v1 + (1 : Nat)) : Int)
      refine ⟨?_, ?_⟩
      · -- left
        refine ⟨by show v1 + (1 : Nat) ≤ xs.length; omega, ?_⟩ -- v1 + (1 : Nat) ≤ xs.length
        exact by show xs.length ≤ (8 : Nat); assumption -- xs.length ≤ (8 : Nat)
      exact by show xs.length - (v1 + (1 : Nat)) < xs.length - v1; omega -- xs.length - (v1 + (1 : Nat)) < xs.length - v1
    · -- no
      -- k (AV.tup [AV.int IntKind.u64 (↑(getL (List.take v1 xs)) : Int), AV.int IntKind.i64 (0 : Int)]) [] []
      have e : v1 = xs.length := by omega
      rw [e, List.take_length]
      refine hy ?_
      simp at c1
      unfold getOk
      rw [decide_eq_true_eq]
      omega


theorem get_fn (xs : List UInt8) (k : AV → List (Option Blk) → List Blk → Prop) (hy : getOk xs = true → k (.tup [.int .u64 (getL xs), .int .i64 0]) [] []) (hn : getOk xs = false → k (.tup [.int .u64 0, .int .i64 8]) [] []) :
    Ok (fnVC { base with loops := getLoops xs, cuts := fun _ _ => none } true Try.f16 [.sl 0 xs] k) := .cast (by kernel_rfl) (get_vc xs k hy hn)
theorem get_ok : Holds base.P 16 getS := by
  refine fn_sound (env := base) (fun _ _ h => by cases h) Try.func16 Try.call16 fun args k h => ?_
  match args, h with
  | [.sl 0 xs], h => exact ⟨by kernel_rfl, getLoops xs, fun _ _ => none, get_fn xs k (br_out h).1 (br_out h).2⟩
end Go.Proofs.Ytcccenipmefkiaa
