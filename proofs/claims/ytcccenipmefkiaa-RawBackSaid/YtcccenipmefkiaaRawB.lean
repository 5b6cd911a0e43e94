import Derived.Test.YtcccenipmefkiaaRawA
namespace Go.Proofs.Ytcccenipmefkiaa
open Go Go.Eng Go.Proofs
set_option linter.unusedVariables false

theorem pow7 (i : Nat) : 2 ^ (7 * i) = 128 ^ i := by rw [Nat.pow_mul]
theorem room7 (x i : Nat) (hx : x ≤ 255) (hi : i ≤ 9) (h : ¬ (i = 9 ∧ 1 < x)) : x % 128 * 2 ^ (7 * i) + 2 ^ (7 * i) ≤ 18446744073709551616 := by
  rcases i with _ | _ | _ | _ | _ | _ | _ | _ | _ | _ | i <;> simp at h ⊢ <;> omega
theorem or7 (acc x i : Nat) (n4 n5 n6 n7 : Int) (hx : x ≤ 255) (hi : i ≤ 9) (h : ¬ (i = 9 ∧ 1 < x)) (ha : acc < 128 ^ i) (h4 : n4 = ((x % 128 : Nat) : Int)) (h5 : n5 = 7 * (i : Int))
    (h6 : n6 = n4 * (2 : Int) ^ min n5.toNat IntKind.u64.bits % 18446744073709551616) (h7 : n7 = bits BinOp.or IntKind.u64 (acc : Int) n6) : n7 = ((acc + x % 128 * 128 ^ i : Nat) : Int) := by
  have r := room7 x i hx hi h
  rw [← pow7] at ha ⊢
  rw [h7, h6, h4, shl_val _ (7 * i) n5 _ (by omega) (by show 7 * i ≤ 64; omega) (by omega), or64 _ _ _ ha (by omega)]
theorem read_at (xs : List UInt8) (i acc : Nat) (h : i < xs.length) : readG i acc (xs.drop i) = if i = 9 ∧ 1 < (xs.getD i 0).toNat then (0, 0, 8) else
      if (xs.getD i 0).toNat < 128 then (if (xs.getD i 0).toNat = 0 ∧ 0 < i then (0, 0, 8) else (acc + (xs.getD i 0).toNat % 128 * 128 ^ i, i + 1, 0))
      else readG (i + 1) (acc + (xs.getD i 0).toNat % 128 * 128 ^ i) (xs.drop (i + 1)) := by
  rw [List.drop_eq_getElem_cons h]
  have : xs.getD i 0 = xs[i] := by simp [List.getD, h]
  rw [this, readG]

theorem read_vc (xs : List UInt8) (k : AV → List (Option Blk) → List Blk → Prop) (hxs : xs.length ≤ (1000000 : Nat)) (hk : k (AV.tup [AV.int IntKind.u64 (↑(readG (0 : Nat) (0 : Nat) xs).fst : Int), AV.int IntKind.i64 (↑(readG (0 : Nat) (0 : Nat) xs).snd.fst : Int), AV.int IntKind.i64 (↑(readG (0 : Nat) (0 : Nat) xs).snd.snd : Int)]) [] []) :
  (
   ∃ (v : Nat × Nat),
   ((0 : Int) = (↑v.snd : Int)) ∧
   (xs = xs) ∧
   ((↑xs.length : Int) = (↑xs.length : Int)) ∧
   ((0 : Int) = (↑v.fst : Int)) ∧
   (v.fst ≤ xs.length) ∧
   (v.fst ≤ (9 : Nat)) ∧
   (v.snd < (128 : Nat) ^ v.fst) ∧
   (readG v.fst v.snd (List.drop v.fst xs) = readG (0 : Nat) (0 : Nat) xs)) ∧
  ∀ (v1 : Nat × Nat),
  (v1.fst ≤ xs.length ∧ v1.fst ≤ (9 : Nat) ∧ v1.snd < (128 : Nat) ^ v1.fst ∧ readG v1.fst v1.snd (List.drop v1.fst xs) = readG (0 : Nat) (0 : Nat) xs) →
  br (decide ((↑v1.fst : Int) < (↑xs.length : Int)))
   (((0 : Int) ≤ (↑v1.fst : Int)) ∧
    ((↑v1.fst : Int) < (↑xs.length : Int)) ∧
    ∀ (n2 : Int),
    (n2 = (↑(xs.getD (↑v1.fst : Int).toNat (0 : UInt8)).toNat : Int)) →
    ((0 : Int) ≤ n2 ∧ n2 ≤ (255 : Int)) →
    br (bif (↑v1.fst : Int) == (9 : Int) then decide (n2 > (1 : Int)) else false)
     ((k (AV.tup [AV.int IntKind.u64 (0 : Int), AV.int IntKind.i64 (0 : Int), AV.int IntKind.i64 (8 : Int)]) [] []))
     (∀ (n3 : Int),
      (n3 = bits BinOp.and IntKind.u8 n2 (127 : Int)) →
      ((0 : Int) ≤ n3 ∧ n3 ≤ (255 : Int)) →
      ∀ (n4 : Int),
      (n4 = IntKind.u64.wrap n3) →
      ((0 : Int) ≤ n4 ∧ n4 ≤ (18446744073709551615 : Int)) →
      ∀ (n5 : Int),
      (n5 = IntKind.i64.wrap ((7 : Int) * (↑v1.fst : Int))) →
      ((-9223372036854775808 : Int) ≤ n5 ∧ n5 ≤ (9223372036854775807 : Int)) →
      ((0 : Int) ≤ n5) ∧
      ∀ (n6 : Int),
      (n6 = IntKind.u64.wrap (n4 * (2 : Int) ^ min n5.toNat IntKind.u64.bits)) →
      ((0 : Int) ≤ n6 ∧ n6 ≤ (18446744073709551615 : Int)) →
      ∀ (n7 : Int),
      (n7 = bits BinOp.or IntKind.u64 (↑v1.snd : Int) n6) →
      ((0 : Int) ≤ n7 ∧ n7 ≤ (18446744073709551615 : Int)) →
      br (decide (n2 < (128 : Int)))
       (br (bif n2 == (0 : Int) then decide ((↑v1.fst : Int) > (0 : Int)) else false)
         ((k (AV.tup [AV.int IntKind.u64 (0 : Int), AV.int IntKind.i64 (0 : Int), AV.int IntKind.i64 (8 : Int)]) [] []))
         (∀ (n8 : Int),
          (n8 = IntKind.i64.wrap ((↑v1.fst : Int) + (1 : Int))) →
          ((-9223372036854775808 : Int) ≤ n8 ∧ n8 ≤ (9223372036854775807 : Int)) →
          (k (AV.tup [AV.int IntKind.u64 n7, AV.int IntKind.i64 n8, AV.int IntKind.i64 (0 : Int)]) [] [])))
       (∀ (n9 : Int),
        (n9 = IntKind.i64.wrap ((↑v1.fst : Int) + (1 : Int))) →
        ((-9223372036854775808 : Int) ≤ n9 ∧ n9 ≤ (9223372036854775807 : Int)) →
        ∃ (v' : Nat × Nat),
        (n7 = (↑v'.snd : Int)) ∧
        (xs = xs) ∧
        ((↑xs.length : Int) = (↑xs.length : Int)) ∧
        (n9 = (↑v'.fst : Int)) ∧
        (
         (v'.fst ≤ xs.length) ∧
         (v'.fst ≤ (9 : Nat)) ∧
         (v'.snd < (128 : Nat) ^ v'.fst) ∧
         (readG v'.fst v'.snd (List.drop v'.fst xs) = readG (0 : Nat) (0 : Nat) xs)) ∧
        (xs.length - v'.fst < xs.length - v1.fst))))
   ((k (AV.tup [AV.int IntKind.u64 (0 : Int), AV.int IntKind.i64 (0 : Int), AV.int IntKind.i64 (8 : Int)]) [] [])) := by
  refine ⟨?_, ?_⟩
  · -- left
    refine ⟨((0 : Nat), (0 : Nat)), ?_⟩
    refine ⟨by show (0 : Int) = (↑(0 : Nat) : Int); omega, ?_⟩ -- (0 : Int) = (↑(0 : Nat) : Int)
    refine ⟨by first | with_reducible rfl | rfl, ?_⟩ -- xs = xs
    refine ⟨by first | with_reducible rfl | rfl, ?_⟩ -- (↑xs.length : Int) = (↑xs.length : Int)
    refine ⟨by show (0 : Int) = (↑(0 : Nat) : Int); omega, ?_⟩ -- (0 : Int) = (↑(0 : Nat) : Int)
    refine ⟨by show (0 : Nat) ≤ xs.length; omega, ?_⟩ -- (0 : Nat) ≤ xs.length
    refine ⟨by show (0 : Nat) ≤ (9 : Nat); omega, ?_⟩ -- (0 : Nat) ≤ (9 : Nat)
    refine ⟨by show (0 : Nat) < (128 : Nat) ^ (0 : Nat); omega, ?_⟩ -- (0 : Nat) < (128 : Nat) ^ (0 : Nat)
    exact by rfl -- readG (0 : Nat) (0 : Nat) (List.drop (0 : Nat) xs) = readG (0 : Nat) (0 : Nat) xs
  intro v1
  intro h1 -- v1.fst ≤ xs.length ∧ v1.fst ≤ (9 : Nat) ∧ v1.snd < (128 : Nat) ^ v1.fst ∧ readG v1.fst v1.snd (List.drop v1.fst xs) = readG (0 : Nat) (0 : Nat) xs
  refine brd (fun c2 => ?_) (fun c2 => ?_) -- decide ((↑v1.fst : Int) < (↑xs.length : Int))
  · -- yes
    refine ⟨by omega, ?_⟩ -- (0 : Int) ≤ (↑v1.fst : Int)
    refine ⟨by assumption, ?_⟩ -- (↑v1.fst : Int) < (↑xs.length : Int)
    intro n2
    intro q2 -- n2 = (↑(xs.getD (↑v1.fst : Int).toNat (0 : UInt8)).toNat : Int)
    intro ⟨l2, u2⟩ -- (0 : Int) ≤ n2 ∧ n2 ≤ (255 : Int)
    refine br_intro (fun c3 => ?_) (fun c3 => ?_) -- bif (↑v1.fst : Int) == (9 : Int) then decide (n2 > (1 : Int)) else false
    · -- yes
      -- k (AV.tup [AV.int IntKind.u64 (0 : Int), AV.int IntKind.i64 (0 : Int), AV.int IntKind.i64 (8 : Int)]) [] []
      have hr := h1.2.2.2
      rw [read_at xs v1.fst v1.snd (by omega), if_pos (by
        have e : n2 = (((xs.getD v1.fst 0).toNat : Nat) : Int) := by rw [q2]; rfl
        simp at c3; omega)] at hr
      rw [← hr] at hk
      exact hk
    · -- no
      intro n3
      intro q3 -- n3 = bits BinOp.and IntKind.u8 n2 (127 : Int)
      rw [and_u8 7 (by decide) 127 128 (by decide) (by decide) _ (by omega) (by omega)] at q3
      intro ⟨l3, u3⟩ -- (0 : Int) ≤ n3 ∧ n3 ≤ (255 : Int)
      intro n4
      intro q4 -- n4 = IntKind.u64.wrap n3
      rw [IntKind.wrap_u64] at q4
      intro ⟨l4, u4⟩ -- (0 : Int) ≤ n4 ∧ n4 ≤ (18446744073709551615 : Int)
      intro n5
      intro q5 -- n5 = IntKind.i64.wrap ((7 : Int) * (↑v1.fst : Int))
      rw [IntKind.wrap_i64] at q5
      intro ⟨l5, u5⟩ -- (-9223372036854775808 : Int) ≤ n5 ∧ n5 ≤ (9223372036854775807 : Int)
      have h4 : (0 : Int) ≤ n5 := by
        have e : (7 * (v1.fst : Int) + 9223372036854775808) % 18446744073709551616 = 7 * (v1.fst : Int) + 9223372036854775808 := Int.emod_eq_of_lt (by omega) (by omega)
        rw [e] at q5
        omega
      refine ⟨h4, ?_⟩
      intro n6
      intro q6 -- n6 = IntKind.u64.wrap (n4 * (2 : Int) ^ min n5.toNat IntKind.u64.bits)
      rw [IntKind.wrap_u64] at q6
      intro ⟨l6, u6⟩ -- (0 : Int) ≤ n6 ∧ n6 ≤ (18446744073709551615 : Int)
      intro n7
      intro q7 -- n7 = bits BinOp.or IntKind.u64 (↑v1.snd : Int) n6
      intro ⟨l7, u7⟩ -- (0 : Int) ≤ n7 ∧ n7 ≤ (18446744073709551615 : Int)
      refine brd (fun c5 => ?_) (fun c5 => ?_) -- decide (n2 < (128 : Int))
      · -- yes
        refine br_intro (fun c6 => ?_) (fun c6 => ?_) -- bif n2 == (0 : Int) then decide ((↑v1.fst : Int) > (0 : Int)) else false
        · -- yes
          -- k (AV.tup [AV.int IntKind.u64 (0 : Int), AV.int IntKind.i64 (0 : Int), AV.int IntKind.i64 (8 : Int)]) [] []
          have e : n2 = (((xs.getD v1.fst 0).toNat : Nat) : Int) := by rw [q2]; rfl
          have hr := h1.2.2.2
          rw [read_at xs v1.fst v1.snd (by omega), if_neg (by simp at c3; omega), if_pos (by omega), if_pos (by simp at c6; omega)] at hr
          rw [← hr] at hk
          exact hk
        · -- no
          intro n8
          intro q8 -- n8 = IntKind.i64.wrap ((↑v1.fst : Int) + (1 : Int))
          rw [IntKind.wrap_i64] at q8
          intro ⟨l8, u8⟩ -- (-9223372036854775808 : Int) ≤ n8 ∧ n8 ≤ (9223372036854775807 : Int)
          -- k (AV.tup [AV.int IntKind.u64 n7, AV.int IntKind.i64 n8, AV.int IntKind.i64 (0 : Int)]) [] []
          have e : n2 = (((xs.getD v1.fst 0).toNat : Nat) : Int) := by rw [q2]; rfl
          have hr := h1.2.2.2
          have e7 := or7 v1.snd (xs.getD v1.fst 0).toNat v1.fst n4 n5 n6 n7 (by omega) h1.2.1 (by simp at c3; omega) h1.2.2.1 (by omega) (by omega) q6 q7
          rw [read_at xs v1.fst v1.snd (by omega), if_neg (by simp at c3; omega), if_pos (by omega), if_neg (by simp at c6; omega)] at hr
          rw [← hr] at hk
          rw [e7, show n8 = ((v1.fst + 1 : Nat) : Int) by omega]
          exact hk
      · -- no
        intro n9
        intro q9 -- n9 = IntKind.i64.wrap ((↑v1.fst : Int) + (1 : Int))
        rw [IntKind.wrap_i64] at q9
        intro ⟨l9, u9⟩ -- (-9223372036854775808 : Int) ≤ n9 ∧ n9 ≤ (9223372036854775807 : Int)
        refine ⟨(v1.fst + (1 : Nat), n7.toNat), ?_⟩
        refine ⟨by show n7 = (↑n7.toNat : Int); omega, ?_⟩ -- n7 = (↑n7.toNat : Int)
        refine ⟨by first | with_reducible rfl | rfl, ?_⟩ -- xs = xs
        refine ⟨by first | with_reducible rfl | rfl, ?_⟩ -- (↑xs.length : Int) = (↑xs.length : Int)
        refine ⟨by show n9 = (↑(v1.fst + (1 : Nat)) : Int); omega, ?_⟩ -- n9 = (↑(v1.fst + (1 : Nat)) : Int)
        refine ⟨?_, ?_⟩
        · -- left
          refine ⟨by show v1.fst + (1 : Nat) ≤ xs.length; omega, ?_⟩ -- v1.fst + (1 : Nat) ≤ xs.length
          have h7 : v1.fst + (1 : Nat) ≤ (9 : Nat) := by
            simp at c3; omega
          refine ⟨h7, ?_⟩
          have h8 : n7.toNat < (128 : Nat) ^ (v1.fst + (1 : Nat)) := by
            have e : n2 = (((xs.getD v1.fst 0).toNat : Nat) : Int) := by rw [q2]; rfl
            have e7 := or7 v1.snd (xs.getD v1.fst 0).toNat v1.fst n4 n5 n6 n7 (by omega) h1.2.1 (by simp at c3; omega) h1.2.2.1 (by omega) (by omega) q6 q7
            have hb : (xs.getD v1.fst 0).toNat % 128 * 128 ^ v1.fst ≤ 127 * 128 ^ v1.fst := Nat.mul_le_mul_right _ (by omega)
            have h9 := h1.2.2.1
            rw [e7, Int.toNat_natCast, Nat.pow_succ]
            omega
          refine ⟨h8, ?_⟩
          -- readG (v1.fst + (1 : Nat)) n7.toNat (List.drop (v1.fst + (1 : Nat)) xs) = readG (0 : Nat) (0 : Nat) xs
          have e : n2 = (((xs.getD v1.fst 0).toNat : Nat) : Int) := by rw [q2]; rfl
          have hr := h1.2.2.2
          have e7 := or7 v1.snd (xs.getD v1.fst 0).toNat v1.fst n4 n5 n6 n7 (by omega) h1.2.1 (by simp at c3; omega) h1.2.2.1 (by omega) (by omega) q6 q7
          rw [read_at xs v1.fst v1.snd (by omega), if_neg (by simp at c3; omega), if_neg (by omega)] at hr
          rw [e7, Int.toNat_natCast]
          exact hr
        exact by show xs.length - (v1.fst + (1 : Nat)) < xs.length - v1.fst; omega -- xs.length - (v1.fst + (1 : Nat)) < xs.length - v1.fst
  · -- no
    -- k (AV.tup [AV.int IntKind.u64 (0 : Int), AV.int IntKind.i64 (0 : Int), AV.int IntKind.i64 (8 : Int)]) [] []
    have e : v1.fst = xs.length := by omega
    have hr := h1.2.2.2
    rw [e, List.drop_length] at hr
    rw [← hr] at hk
    exact hk


theorem read_fn (xs : List UInt8) (k : AV → List (Option Blk) → List Blk → Prop) (hxs : xs.length ≤ 1000000) (hk : k (.tup [.int .u64 (readG 0 0 xs).1, .int .i64 (readG 0 0 xs).2.1, .int .i64 (readG 0 0 xs).2.2]) [] []) :
    Ok (fnVC { base with loops := readLoops xs, cuts := fun _ _ => none } true Try.f18 [.sl 0 xs] k) := .cast (by kernel_rfl) (read_vc xs k hxs hk)
theorem read_ok : Holds base.P 18 readS := by
  refine fn_sound (env := base) (fun _ _ h => by cases h) Try.func18 Try.call18 fun args k h => ?_
  match args, h with
  | [.sl 0 xs], h => exact ⟨by kernel_rfl, readLoops xs, fun _ _ => none, read_fn xs k h.1 h.2⟩
end Go.Proofs.Ytcccenipmefkiaa
