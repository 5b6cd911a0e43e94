import Derived.Test.YtilbglkpbjamfaaFrU
namespace Go.Proofs.Ytilbglkpbjamfaa
open Go Go.Eng Go.Rw Go.Fr Go.Proofs
set_option linter.unusedVariables false
set_option maxHeartbeats 2000000 in
theorem rput_vc (n : Int) (n0 : (0 : Int) ≤ n) (n1 : n ≤ (18446744073709551615 : Int)) (w : Int) (w0 : (-9223372036854775808 : Int) ≤ w) (w1 : w ≤ (9223372036854775807 : Int)) (k : AV → List (Option Blk) → List Blk → Prop) (hk : (putOk n w = true → ∀ (ys : List UInt8) (q : Nat), ys = putL n.toNat w.toNat → (↑q : Int) = w → k (AV.tup [AV.row (0 : Nat) (0 : Nat) (0 : Nat) q, AV.int IntKind.i64 (0 : Int)]) [] [Blk.row (0 : Nat) ys]) ∧ (putOk n w = false → k (AV.tup [AV.nilsl, AV.int IntKind.i64 (2 : Int)]) [] [])) :
  br (bif decide (w < (1 : Int)) then true else decide (w > (8 : Int)))
   ((k (AV.tup [AV.nilsl, AV.int IntKind.i64 (2 : Int)]) [] []))
   ((
     ∃ (v : Nat × List UInt8 × Int),
     (n = v.snd.snd) ∧
     (w = w) ∧
     ((0 : Nat) = (0 : Nat)) ∧
     ((0 : Nat) = v.fst) ∧
     ((0 : Int) = (↑v.fst : Int)) ∧
     ([] = v.snd.fst) ∧
     (v.fst ≤ w.toNat) ∧
     (v.snd.fst = putL n.toNat v.fst) ∧
     (v.snd.fst.length = v.fst) ∧
     (v.snd.snd = (↑(n.toNat / (256 : Nat) ^ v.fst) : Int)) ∧
     ((0 : Int) ≤ v.snd.snd) ∧
     (v.snd.snd ≤ n)) ∧
    ∀ (v_1 : Nat × List UInt8 × Int),
    (v_1.fst ≤ w.toNat ∧ v_1.snd.fst = putL n.toNat v_1.fst ∧ v_1.snd.fst.length = v_1.fst ∧ v_1.snd.snd = (↑(n.toNat / (256 : Nat) ^ v_1.fst) : Int) ∧ (0 : Int) ≤ v_1.snd.snd ∧ v_1.snd.snd ≤ n) →
    br (decide ((↑v_1.fst : Int) < w))
     (((256 : Int) ≠ (0 : Int)) ∧
      ∀ (n3 : Int),
      (n3 = v_1.snd.snd.tmod (256 : Int)) →
      ((0 : Int) ≤ n3 ∧ n3 ≤ (18446744073709551615 : Int)) →
      ∀ (n6 : Int),
      (n6 = IntKind.u8.wrap n3) →
      ((0 : Int) ≤ n6 ∧ n6 ≤ (255 : Int)) →
      ((v_1.fst + (1 : Nat)) * (1 : Nat) ≤ (140737488355328 : Nat)) ∧
      ∀ (z9 : List UInt8),
      (z9 = List.take v_1.fst v_1.snd.fst ++ List.take (1 : Nat) (List.drop (0 : Nat) [UInt8.ofNat n6.toNat])) →
      ((256 : Int) ≠ (0 : Int)) ∧
      ∀ (n11 : Int),
      (n11 = IntKind.u64.wrap (v_1.snd.snd.tdiv (256 : Int))) →
      ((0 : Int) ≤ n11 ∧ n11 ≤ (18446744073709551615 : Int)) →
      ∀ (n14 : Int),
      (n14 = IntKind.i64.wrap ((↑v_1.fst : Int) + (1 : Int))) →
      ((-9223372036854775808 : Int) ≤ n14 ∧ n14 ≤ (9223372036854775807 : Int)) →
      ∃ (v' : Nat × List UInt8 × Int),
      (n11 = v'.snd.snd) ∧
      (w = w) ∧
      ((0 : Nat) = (0 : Nat)) ∧
      (v_1.fst + (1 : Nat) = v'.fst) ∧
      (n14 = (↑v'.fst : Int)) ∧
      (z9 = v'.snd.fst) ∧
      (
       (v'.fst ≤ w.toNat) ∧
       (v'.snd.fst = putL n.toNat v'.fst) ∧
       (v'.snd.fst.length = v'.fst) ∧
       (v'.snd.snd = (↑(n.toNat / (256 : Nat) ^ v'.fst) : Int)) ∧
       ((0 : Int) ≤ v'.snd.snd) ∧
       (v'.snd.snd ≤ n)) ∧
      (w.toNat - v'.fst < w.toNat - v_1.fst))
     (br (decide (v_1.snd.snd > (0 : Int)))
       ((k (AV.tup [AV.nilsl, AV.int IntKind.i64 (2 : Int)]) [] []))
       ((k (AV.tup [AV.row (0 : Nat) (0 : Nat) (0 : Nat) v_1.fst, AV.int IntKind.i64 (0 : Int)]) [] [Blk.row (0 : Nat) v_1.snd.fst])))) := by
  refine br_intro (fun c1 => ?_) (fun c1 => ?_) -- bif decide (w < (1 : Int)) then true else decide (w > (8 : Int))
  · -- yes
    simp at c1 -- w < (1 : Int) ∨ (8 : Int) < w
    -- k (AV.tup [AV.nilsl, AV.int IntKind.i64 (2 : Int)]) [] []
    refine hk.2 ?_
    unfold putOk
    rw [decide_eq_false_iff_not]
    omega
  · -- no
    simp at c1 -- (1 : Int) ≤ w ∧ w ≤ (8 : Int)
    refine ⟨?_, ?_⟩
    · -- left
      refine ⟨((0 : Nat), [], n), ?_⟩
      refine ⟨by first | with_reducible rfl | rfl, ?_⟩ -- n = n
      refine ⟨by first | with_reducible rfl | rfl, ?_⟩ -- w = w
      refine ⟨by first | with_reducible rfl | rfl, ?_⟩ -- (0 : Nat) = (0 : Nat)
      refine ⟨by first | with_reducible rfl | rfl, ?_⟩ -- (0 : Nat) = (0 : Nat)
      refine ⟨by show (0 : Int) = (↑(0 : Nat) : Int); omega, ?_⟩ -- (0 : Int) = (↑(0 : Nat) : Int)
      refine ⟨by first | with_reducible rfl | rfl, ?_⟩ -- [] = []
      refine ⟨by show (0 : Nat) ≤ w.toNat; omega, ?_⟩ -- (0 : Nat) ≤ w.toNat
      refine ⟨by rfl, ?_⟩ -- [] = putL n.toNat (0 : Nat)
      refine ⟨by first | with_reducible rfl | rfl, ?_⟩ -- (0 : Nat) = (0 : Nat)
      refine ⟨by show n = (↑(n.toNat / (256 : Nat) ^ (0 : Nat)) : Int); omega, ?_⟩ -- n = (↑(n.toNat / (256 : Nat) ^ (0 : Nat)) : Int)
      refine ⟨by show (0 : Int) ≤ n; assumption, ?_⟩ -- (0 : Int) ≤ n
      exact by show n ≤ n; omega -- n ≤ n
    intro v_1
    intro h2 -- v_1.fst ≤ w.toNat ∧ v_1.snd.fst = putL n.toNat v_1.fst ∧ v_1.snd.fst.length = v_1.fst ∧ v_1.snd.snd = (↑(n.toNat / (256 : Nat) ^ v_1.fst) : Int) ∧ (0 : Int) ≤ v_1.snd.snd ∧ v_1.snd.snd ≤ n
    refine brd (fun c3 => ?_) (fun c3 => ?_) -- decide ((↑v_1.fst : Int) < w)
    · -- yes
      refine ⟨by first | omega | (dsimp only; omega), ?_⟩ -- (256 : Int) ≠ (0 : Int)
      intro n3
      intro q3 -- n3 = v_1.snd.snd.tmod (256 : Int)
      rw [Int.tmod_eq_emod_of_nonneg (by omega)] at q3
      intro ⟨l3, u3⟩ -- (0 : Int) ≤ n3 ∧ n3 ≤ (18446744073709551615 : Int)
      intro n6
      intro q6 -- n6 = IntKind.u8.wrap n3
      rw [IntKind.wrap_u8] at q6
      intro ⟨l6, u6⟩ -- (0 : Int) ≤ n6 ∧ n6 ≤ (255 : Int)
      refine ⟨by first | omega | (dsimp only; omega), ?_⟩ -- (v_1.fst + (1 : Nat)) * (1 : Nat) ≤ (140737488355328 : Nat)
      intro z9
      intro qz9 -- z9 = List.take v_1.fst v_1.snd.fst ++ List.take (1 : Nat) (List.drop (0 : Nat) [UInt8.ofNat n6.toNat])
      refine ⟨by first | omega | (dsimp only; omega), ?_⟩ -- (256 : Int) ≠ (0 : Int)
      intro n11
      intro q11 -- n11 = IntKind.u64.wrap (v_1.snd.snd.tdiv (256 : Int))
      rw [Int.tdiv_eq_ediv_of_nonneg (by omega)] at q11
      rw [IntKind.wrap_u64] at q11
      intro ⟨l11, u11⟩ -- (0 : Int) ≤ n11 ∧ n11 ≤ (18446744073709551615 : Int)
      intro n14
      intro q14 -- n14 = IntKind.i64.wrap ((↑v_1.fst : Int) + (1 : Int))
      rw [IntKind.wrap_i64] at q14
      intro ⟨l14, u14⟩ -- (-9223372036854775808 : Int) ≤ n14 ∧ n14 ≤ (9223372036854775807 : Int)
      refine ⟨(v_1.fst + (1 : Nat), z9, n11), ?_⟩
      refine ⟨by first | with_reducible rfl | rfl, ?_⟩ -- n11 = n11
      refine ⟨by first | with_reducible rfl | rfl, ?_⟩ -- w = w
      refine ⟨by first | with_reducible rfl | rfl, ?_⟩ -- (0 : Nat) = (0 : Nat)
      refine ⟨by first | with_reducible rfl | rfl, ?_⟩ -- v_1.fst + (1 : Nat) = v_1.fst + (1 : Nat)
      refine ⟨by show n14 = (↑(v_1.fst + (1 : Nat)) : Int); omega, ?_⟩ -- n14 = (↑(v_1.fst + (1 : Nat)) : Int)
      refine ⟨by first | with_reducible rfl | rfl, ?_⟩ -- z9 = z9
      refine ⟨?_, ?_⟩
      · -- left
        refine ⟨by show v_1.fst + (1 : Nat) ≤ w.toNat; omega, ?_⟩ -- v_1.fst + (1 : Nat) ≤ w.toNat
        have h4 : z9 = putL n.toNat (v_1.fst + (1 : Nat)) := by
          have e : n6.toNat = n.toNat / 256 ^ v_1.fst % 256 := by
            have := h2.2.2.2.1
            generalize n.toNat / 256 ^ v_1.fst = a at this ⊢
            have u : v_1.snd.snd.tmod 256 = v_1.snd.snd % 256 := Int.tmod_eq_emod_of_nonneg (by omega)
            (try rw [u] at q3)
            omega
          rw [qz9, e, ofNat_mod, putL_succ, List.take_of_length_le (by omega), h2.2.1]
          rfl
        refine ⟨h4, ?_⟩
        have h5 : z9.length = v_1.fst + (1 : Nat) := by
          rw [qz9]; simp; omega
        refine ⟨h5, ?_⟩
        have h6 : n11 = (↑(n.toNat / (256 : Nat) ^ (v_1.fst + (1 : Nat))) : Int) := by
          have t : v_1.snd.snd.tdiv 256 = v_1.snd.snd / 256 := Int.tdiv_eq_ediv_of_nonneg (by omega)
          (try rw [t] at q11)
          have := h2.2.2.2.1
          rw [Nat.pow_succ, ← Nat.div_div_eq_div_mul]
          generalize n.toNat / 256 ^ v_1.fst = a at this ⊢
          omega
        refine ⟨h6, ?_⟩
        refine ⟨by show (0 : Int) ≤ n11; assumption, ?_⟩ -- (0 : Int) ≤ n11
        exact by show n11 ≤ n; omega -- n11 ≤ n
      exact by show w.toNat - (v_1.fst + (1 : Nat)) < w.toNat - v_1.fst; omega -- w.toNat - (v_1.fst + (1 : Nat)) < w.toNat - v_1.fst
    · -- no
      refine brd (fun c7 => ?_) (fun c7 => ?_) -- decide (v_1.snd.snd > (0 : Int))
      · -- yes
        -- k (AV.tup [AV.nilsl, AV.int IntKind.i64 (2 : Int)]) [] []
        have e : v_1.fst = w.toNat := by omega
        have t := h2.2.2.2.1
        rw [e] at t
        refine hk.2 ?_
        unfold putOk
        rw [decide_eq_false_iff_not]
        rintro ⟨_, _, h3⟩
        rw [Nat.div_eq_of_lt h3] at t
        omega
      · -- no
        -- k (AV.tup [AV.row (0 : Nat) (0 : Nat) (0 : Nat) v_1.fst, AV.int IntKind.i64 (0 : Int)]) [] [Blk.row (0 : Nat) v_1.snd.fst]
        have e : v_1.fst = w.toNat := by omega
        have t := h2.2.2.2.1
        rw [e] at t
        refine hk.1 ?_ _ _ (by rw [h2.2.1, e]) (by omega)
        unfold putOk
        rw [decide_eq_true_eq]
        refine ⟨by omega, by omega, ?_⟩
        rcases Nat.lt_or_ge n.toNat (256 ^ w.toNat) with h | h
        · exact h
        · have := Nat.div_pos h (Nat.pow_pos (by decide))
          generalize n.toNat / 256 ^ w.toNat = a at this t
          omega

theorem rput_ok : Holds Try.prog 39 put0S := by
  refine fn_sound (env := mkEnv T0) (tab_ok T0_ok) Try.func39 Try.call39 fun args k h => ?_
  match args, h with
  | [.int .u64 n, .int .i64 w], h => exact ⟨by kernel_rfl, rputLoops n w, fun _ _ => none, .cast (by kernel_rfl) (rput_vc n h.1.1 h.1.2 w h.2.1.1 h.2.1.2 k h.2.2)⟩
set_option maxHeartbeats 2000000 in
theorem rget_vc (xs : List UInt8) (k : AV → List (Option Blk) → List Blk → Prop) (hk : ∀ (a e : Int), a = getV xs → e = getE xs → (0 : Int) ≤ a ∧ a ≤ (18446744073709551615 : Int) → e = (0 : Int) ∨ e = (8 : Int) → k (AV.tup [AV.int IntKind.u64 a, AV.int IntKind.i64 e]) [] []) :
  ∀ (n1 : Int),
  (n1 = (↑xs.length : Int)) →
  ((-9223372036854775808 : Int) ≤ n1 ∧ n1 ≤ (9223372036854775807 : Int)) →
  ∀ (n4 : Int),
  (n4 = (↑xs.length : Int)) →
  br (bif decide (n1 < (1 : Int)) then true else decide (n4 > (8 : Int)))
   ((k (AV.tup [AV.int IntKind.u64 (0 : Int), AV.int IntKind.i64 (8 : Int)]) [] []))
   (∀ (n6 : Int),
    (n6 = (↑xs.length : Int)) →
    ((-9223372036854775808 : Int) ≤ n6 ∧ n6 ≤ (9223372036854775807 : Int)) →
    ∀ (n9 : Int),
    (n9 = IntKind.i64.wrap (n6 - (1 : Int))) →
    ((-9223372036854775808 : Int) ≤ n9 ∧ n9 ≤ (9223372036854775807 : Int)) →
    (
     ∃ (v : Int × Int),
     (xs = xs) ∧
     ((0 : Int) = v.snd) ∧
     (n9 = v.fst) ∧
     (
      ((-1 : Int) ≤ v.fst) ∧
      (v.fst < (↑xs.length : Int))) ∧
     (
      ((1 : Nat) ≤ xs.length) ∧
      (xs.length ≤ (8 : Nat))) ∧
     (v.snd = (↑(getL (List.drop (v.fst + (1 : Int)).toNat xs)) : Int))) ∧
    ∀ (v_12 : Int × Int),
    (((-1 : Int) ≤ v_12.fst ∧ v_12.fst < (↑xs.length : Int)) ∧ ((1 : Nat) ≤ xs.length ∧ xs.length ≤ (8 : Nat)) ∧ v_12.snd = (↑(getL (List.drop (v_12.fst + (1 : Int)).toNat xs)) : Int)) →
    br (decide (v_12.fst ≥ (0 : Int)))
     (∀ (n14 : Int),
      (n14 = IntKind.u64.wrap (v_12.snd * (256 : Int))) →
      ((0 : Int) ≤ n14 ∧ n14 ≤ (18446744073709551615 : Int)) →
      ((0 : Int) ≤ v_12.fst) ∧
      (v_12.fst < (↑xs.length : Int)) ∧
      ∀ (n17 : Int),
      (n17 = (↑(xs.getD v_12.fst.toNat (0 : UInt8)).toNat : Int)) →
      ((0 : Int) ≤ n17 ∧ n17 ≤ (255 : Int)) →
      ∀ (n20 : Int),
      (n20 = IntKind.u64.wrap n17) →
      ((0 : Int) ≤ n20 ∧ n20 ≤ (18446744073709551615 : Int)) →
      ∀ (n23 : Int),
      (n23 = IntKind.u64.wrap (n14 + n20)) →
      ((0 : Int) ≤ n23 ∧ n23 ≤ (18446744073709551615 : Int)) →
      ∀ (n26 : Int),
      (n26 = IntKind.i64.wrap (v_12.fst - (1 : Int))) →
      ((-9223372036854775808 : Int) ≤ n26 ∧ n26 ≤ (9223372036854775807 : Int)) →
      ∃ (v' : Int × Int),
      (xs = xs) ∧
      (n23 = v'.snd) ∧
      (n26 = v'.fst) ∧
      (
       (
        ((-1 : Int) ≤ v'.fst) ∧
        (v'.fst < (↑xs.length : Int))) ∧
       (
        ((1 : Nat) ≤ xs.length) ∧
        (xs.length ≤ (8 : Nat))) ∧
       (v'.snd = (↑(getL (List.drop (v'.fst + (1 : Int)).toNat xs)) : Int))) ∧
      ((v'.fst + (1 : Int)).toNat < (v_12.fst + (1 : Int)).toNat))
     ((k (AV.tup [AV.int IntKind.u64 v_12.snd, AV.int IntKind.i64 (0 : Int)]) [] []))) := by
  intro n1
  intro q1 -- n1 = (↑xs.length : Int)
  intro ⟨l1, u1⟩ -- (-9223372036854775808 : Int) ≤ n1 ∧ n1 ≤ (9223372036854775807 : Int)
  intro n4
  intro q4 -- n4 = (↑xs.length : Int)
  refine br_intro (fun c1 => ?_) (fun c1 => ?_) -- bif decide (n1 < (1 : Int)) then true else decide (n4 > (8 : Int))
  · -- yes
    simp at c1 -- n1 < (1 : Int) ∨ (8 : Int) < n4
    -- k (AV.tup [AV.int IntKind.u64 (0 : Int), AV.int IntKind.i64 (8 : Int)]) [] []
    exact hk 0 8 (by unfold getV; rw [if_neg (fun h => by unfold getOk at h; rw [decide_eq_true_eq] at h; omega)]) (by unfold getE; rw [if_neg (fun h => by unfold getOk at h; rw [decide_eq_true_eq] at h; omega)]) (by omega) (.inr rfl)
  · -- no
    simp at c1 -- (1 : Int) ≤ n1 ∧ n4 ≤ (8 : Int)
    intro n6
    intro q6 -- n6 = (↑xs.length : Int)
    intro ⟨l6, u6⟩ -- (-9223372036854775808 : Int) ≤ n6 ∧ n6 ≤ (9223372036854775807 : Int)
    intro n9
    intro q9 -- n9 = IntKind.i64.wrap (n6 - (1 : Int))
    rw [IntKind.wrap_i64] at q9
    intro ⟨l9, u9⟩ -- (-9223372036854775808 : Int) ≤ n9 ∧ n9 ≤ (9223372036854775807 : Int)
    refine ⟨?_, ?_⟩
    · -- left
      refine ⟨(n9, (0 : Int)), ?_⟩
      refine ⟨by first | with_reducible rfl | rfl, ?_⟩ -- xs = xs
      refine ⟨by first | with_reducible rfl | rfl, ?_⟩ -- (0 : Int) = (0 : Int)
      refine ⟨by first | with_reducible rfl | rfl, ?_⟩ -- n9 = n9
      refine ⟨by first | omega | (dsimp only; omega), ?_⟩ -- (-1 : Int) ≤ n9 ∧ n9 < (↑xs.length : Int)
      refine ⟨by first | omega | (dsimp only; omega), ?_⟩ -- (1 : Nat) ≤ xs.length ∧ xs.length ≤ (8 : Nat)
      -- (0 : Int) = (↑(getL (List.drop (n9 + (1 : Int)).toNat xs)) : Int)
      rw [show (n9 + 1).toNat = xs.length by omega, List.drop_length]; rfl
    intro v_12
    intro h2 -- ((-1 : Int) ≤ v_12.fst ∧ v_12.fst < (↑xs.length : Int)) ∧ ((1 : Nat) ≤ xs.length ∧ xs.length ≤ (8 : Nat)) ∧ v_12.snd = (↑(getL (List.drop (v_12.fst + (1 : Int)).toNat xs)) : Int)
    refine brd (fun c3 => ?_) (fun c3 => ?_) -- decide (v_12.fst ≥ (0 : Int))
    · -- yes
      intro n14
      intro q14 -- n14 = IntKind.u64.wrap (v_12.snd * (256 : Int))
      rw [IntKind.wrap_u64] at q14
      intro ⟨l14, u14⟩ -- (0 : Int) ≤ n14 ∧ n14 ≤ (18446744073709551615 : Int)
      refine ⟨by assumption, ?_⟩ -- (0 : Int) ≤ v_12.fst
      refine ⟨by first | omega | (dsimp only; omega), ?_⟩ -- v_12.fst < (↑xs.length : Int)
      intro n17
      intro q17 -- n17 = (↑(xs.getD v_12.fst.toNat (0 : UInt8)).toNat : Int)
      intro ⟨l17, u17⟩ -- (0 : Int) ≤ n17 ∧ n17 ≤ (255 : Int)
      intro n20
      intro q20 -- n20 = IntKind.u64.wrap n17
      rw [IntKind.wrap_u64] at q20
      intro ⟨l20, u20⟩ -- (0 : Int) ≤ n20 ∧ n20 ≤ (18446744073709551615 : Int)
      intro n23
      intro q23 -- n23 = IntKind.u64.wrap (n14 + n20)
      rw [IntKind.wrap_u64] at q23
      intro ⟨l23, u23⟩ -- (0 : Int) ≤ n23 ∧ n23 ≤ (18446744073709551615 : Int)
      intro n26
      intro q26 -- n26 = IntKind.i64.wrap (v_12.fst - (1 : Int))
      rw [IntKind.wrap_i64] at q26
      intro ⟨l26, u26⟩ -- (-9223372036854775808 : Int) ≤ n26 ∧ n26 ≤ (9223372036854775807 : Int)
      refine ⟨(n26, n23), ?_⟩
      refine ⟨by first | with_reducible rfl | rfl, ?_⟩ -- xs = xs
      refine ⟨by first | with_reducible rfl | rfl, ?_⟩ -- n23 = n23
      refine ⟨by first | with_reducible rfl | rfl, ?_⟩ -- n26 = n26
      refine ⟨?_, ?_⟩
      · -- left
        refine ⟨by first | omega | (dsimp only; omega), ?_⟩ -- (-1 : Int) ≤ n26 ∧ n26 < (↑xs.length : Int)
        refine ⟨by first | omega | (dsimp only; omega), ?_⟩ -- (1 : Nat) ≤ xs.length ∧ xs.length ≤ (8 : Nat)
        -- n23 = (↑(getL (List.drop (n26 + (1 : Int)).toNat xs)) : Int)
        have d := getL_drop (xs := xs) (j := v_12.fst.toNat) (by omega)
        have b := getL_lt (List.drop (v_12.fst.toNat + 1) xs)
        have hp : 256 ^ (List.drop (v_12.fst.toNat + 1) xs).length ≤ 256 ^ 7 := Nat.pow_le_pow_right (by decide) (by rw [List.length_drop]; omega)
        have hp : 256 ^ (List.drop (v_12.fst.toNat + 1) xs).length ≤ 72057594037927936 := hp
        have t := h2.2.2
        rw [show (v_12.fst + 1).toNat = v_12.fst.toNat + 1 by omega] at t
        rw [show (n26 + 1).toNat = v_12.fst.toNat by omega, d]
        generalize 256 ^ (List.drop (v_12.fst.toNat + 1) xs).length = p at b hp
        omega
      exact by show (n26 + (1 : Int)).toNat < (v_12.fst + (1 : Int)).toNat; omega -- (n26 + (1 : Int)).toNat < (v_12.fst + (1 : Int)).toNat
    · -- no
      -- k (AV.tup [AV.int IntKind.u64 v_12.snd, AV.int IntKind.i64 (0 : Int)]) [] []
      have t := h2.2.2
      rw [show (v_12.fst + 1).toNat = 0 by omega, List.drop_zero] at t
      have bg := getL_lt xs
      have pg : 256 ^ xs.length ≤ 256 ^ 8 := Nat.pow_le_pow_right (by decide) (by omega)
      have pg : 256 ^ xs.length ≤ 18446744073709551616 := pg
      exact hk _ 0 (by unfold getV; rw [if_pos (by unfold getOk; rw [decide_eq_true_eq]; omega), t]) (by unfold getE; rw [if_pos (by unfold getOk; rw [decide_eq_true_eq]; omega)]) (by omega) (.inl rfl)

theorem rget_ok : Holds Try.prog 36 getS := by
  refine fn_sound (env := mkEnv T0) (tab_ok T0_ok) Try.func36 Try.call36 fun args k h => ?_
  match args, h with
  | [.sl 0 xs], h => exact ⟨by kernel_rfl, rgetLoops xs, fun _ _ => none, .cast (by kernel_rfl) (rget_vc xs k h)⟩
theorem U1_ok : TabOk Try.prog U1 := ⟨put_up rput_ok, trivial⟩
set_option maxHeartbeats 2000000 in
theorem rsum_vc (xs : List UInt8) (k : AV → List (Option Blk) → List Blk → Prop) (hk : ∀ (n : Int), n = (↑(sumN xs) : Int) → inK IntKind.u32 n → k (AV.int IntKind.u32 n) [] []) :
  (
   ∃ (v : Nat × Nat),
   (xs = xs) ∧
   ((4294967295 : Int) = (↑v.snd : Int)) ∧
   ((0 : Int) = (↑v.fst : Int)) ∧
   (v.fst ≤ xs.length) ∧
   (v.snd = crc (4294967295 : Nat) (List.take v.fst xs)) ∧
   (v.snd < (4294967296 : Nat))) ∧
  ∀ (v_1 : Nat × Nat),
  (v_1.fst ≤ xs.length ∧ v_1.snd = crc (4294967295 : Nat) (List.take v_1.fst xs) ∧ v_1.snd < (4294967296 : Nat)) →
  ∀ (n3 : Int),
  (n3 = (↑xs.length : Int)) →
  ((-9223372036854775808 : Int) ≤ n3 ∧ n3 ≤ (9223372036854775807 : Int)) →
  br (decide ((↑v_1.fst : Int) < n3))
   (((0 : Int) ≤ (↑v_1.fst : Int)) ∧
    ((↑v_1.fst : Int) < (↑xs.length : Int)) ∧
    ∀ (n6 : Int),
    (n6 = (↑(xs.getD (↑v_1.fst : Int).toNat (0 : UInt8)).toNat : Int)) →
    ((0 : Int) ≤ n6 ∧ n6 ≤ (255 : Int)) →
    ∀ (n9 : Int),
    (n9 = IntKind.u32.wrap n6) →
    ((0 : Int) ≤ n9 ∧ n9 ≤ (4294967295 : Int)) →
    ∀ (n12 : Int),
    (n12 = bits BinOp.xor IntKind.u32 (↑v_1.snd : Int) n9) →
    ((0 : Int) ≤ n12 ∧ n12 ≤ (4294967295 : Int)) →
    (
     ∃ (v : Nat × Nat),
     (xs = xs) ∧
     (n12 = (↑v.fst : Int)) ∧
     ((↑v_1.fst : Int) = (↑v_1.fst : Int)) ∧
     ((0 : Int) = (↑v.snd : Int)) ∧
     (v.snd ≤ (8 : Nat)) ∧
     (v.fst = bitK v.snd (crc (4294967295 : Nat) (List.take v_1.fst xs) ^^^ (xs.getD v_1.fst (0 : UInt8)).toNat)) ∧
     (v.fst < (4294967296 : Nat))) ∧
    ∀ (v_15 : Nat × Nat),
    (v_15.snd ≤ (8 : Nat) ∧ v_15.fst = bitK v_15.snd (crc (4294967295 : Nat) (List.take v_1.fst xs) ^^^ (xs.getD v_1.fst (0 : UInt8)).toNat) ∧ v_15.fst < (4294967296 : Nat)) →
    br (decide ((↑v_15.snd : Int) < (8 : Int)))
     (((2 : Int) ≠ (0 : Int)) ∧
      ∀ (n17 : Int),
      (n17 = (↑v_15.fst : Int).tmod (2 : Int)) →
      ((0 : Int) ≤ n17 ∧ n17 ≤ (4294967295 : Int)) →
      ((2 : Int) ≠ (0 : Int)) ∧
      ∀ (n20 : Int),
      (n20 = IntKind.u32.wrap ((↑v_15.fst : Int).tdiv (2 : Int))) →
      ((0 : Int) ≤ n20 ∧ n20 ≤ (4294967295 : Int)) →
      br (n17 == (1 : Int))
       (∀ (n23 : Int),
        (n23 = bits BinOp.xor IntKind.u32 n20 (3988292384 : Int)) →
        ((0 : Int) ≤ n23 ∧ n23 ≤ (4294967295 : Int)) →
        ∀ (n26 : Int),
        (n26 = IntKind.i64.wrap ((↑v_15.snd : Int) + (1 : Int))) →
        ((-9223372036854775808 : Int) ≤ n26 ∧ n26 ≤ (9223372036854775807 : Int)) →
        ∃ (v' : Nat × Nat),
        (xs = xs) ∧
        (n23 = (↑v'.fst : Int)) ∧
        ((↑v_1.fst : Int) = (↑v_1.fst : Int)) ∧
        (n26 = (↑v'.snd : Int)) ∧
        (
         (v'.snd ≤ (8 : Nat)) ∧
         (v'.fst = bitK v'.snd (crc (4294967295 : Nat) (List.take v_1.fst xs) ^^^ (xs.getD v_1.fst (0 : UInt8)).toNat)) ∧
         (v'.fst < (4294967296 : Nat))) ∧
        ((8 : Nat) - v'.snd < (8 : Nat) - v_15.snd))
       (∀ (n29 : Int),
        (n29 = IntKind.i64.wrap ((↑v_15.snd : Int) + (1 : Int))) →
        ((-9223372036854775808 : Int) ≤ n29 ∧ n29 ≤ (9223372036854775807 : Int)) →
        ∃ (v' : Nat × Nat),
        (xs = xs) ∧
        (n20 = (↑v'.fst : Int)) ∧
        ((↑v_1.fst : Int) = (↑v_1.fst : Int)) ∧
        (n29 = (↑v'.snd : Int)) ∧
        (
         (v'.snd ≤ (8 : Nat)) ∧
         (v'.fst = bitK v'.snd (crc (4294967295 : Nat) (List.take v_1.fst xs) ^^^ (xs.getD v_1.fst (0 : UInt8)).toNat)) ∧
         (v'.fst < (4294967296 : Nat))) ∧
        ((8 : Nat) - v'.snd < (8 : Nat) - v_15.snd)))
     (∀ (n32 : Int),
      (n32 = IntKind.i64.wrap ((↑v_1.fst : Int) + (1 : Int))) →
      ((-9223372036854775808 : Int) ≤ n32 ∧ n32 ≤ (9223372036854775807 : Int)) →
      ∃ (v' : Nat × Nat),
      (xs = xs) ∧
      ((↑v_15.fst : Int) = (↑v'.snd : Int)) ∧
      (n32 = (↑v'.fst : Int)) ∧
      (
       (v'.fst ≤ xs.length) ∧
       (v'.snd = crc (4294967295 : Nat) (List.take v'.fst xs)) ∧
       (v'.snd < (4294967296 : Nat))) ∧
      (xs.length - v'.fst < xs.length - v_1.fst)))
   (∀ (n35 : Int),
    (n35 = bits BinOp.xor IntKind.u32 (4294967295 : Int) (↑v_1.snd : Int)) →
    ((0 : Int) ≤ n35 ∧ n35 ≤ (4294967295 : Int)) →
    (k (AV.int IntKind.u32 n35) [] [])) := by
  refine ⟨?_, ?_⟩
  · -- left
    refine ⟨(Int.toNat (0 : Int), crc (4294967295 : Nat) (List.take (Int.toNat (0 : Int)) xs)), ?_⟩
    refine ⟨by first | with_reducible rfl | rfl, ?_⟩ -- xs = xs
    refine ⟨by rfl, ?_⟩ -- (4294967295 : Int) = (↑(crc (4294967295 : Nat) (List.take (Int.toNat (0 : Int)) xs)) : Int)
    refine ⟨by show (0 : Int) = (↑(Int.toNat (0 : Int)) : Int); omega, ?_⟩ -- (0 : Int) = (↑(Int.toNat (0 : Int)) : Int)
    refine ⟨by show Int.toNat (0 : Int) ≤ xs.length; omega, ?_⟩ -- Int.toNat (0 : Int) ≤ xs.length
    refine ⟨by first | with_reducible rfl | rfl, ?_⟩ -- crc (4294967295 : Nat) (List.take (Int.toNat (0 : Int)) xs) = crc (4294967295 : Nat) (List.take (Int.toNat (0 : Int)) xs)
    -- crc (4294967295 : Nat) (List.take (Int.toNat (0 : Int)) xs) < (4294967296 : Nat)
    exact crc_lt _ (by decide)
  intro v_1
  intro h1 -- v_1.fst ≤ xs.length ∧ v_1.snd = crc (4294967295 : Nat) (List.take v_1.fst xs) ∧ v_1.snd < (4294967296 : Nat)
  intro n3
  intro q3 -- n3 = (↑xs.length : Int)
  intro ⟨l3, u3⟩ -- (-9223372036854775808 : Int) ≤ n3 ∧ n3 ≤ (9223372036854775807 : Int)
  refine brd (fun c2 => ?_) (fun c2 => ?_) -- decide ((↑v_1.fst : Int) < n3)
  · -- yes
    refine ⟨by first | omega | (dsimp only; omega), ?_⟩ -- (0 : Int) ≤ (↑v_1.fst : Int)
    refine ⟨by first | omega | (dsimp only; omega), ?_⟩ -- (↑v_1.fst : Int) < (↑xs.length : Int)
    intro n6
    intro q6 -- n6 = (↑(xs.getD (↑v_1.fst : Int).toNat (0 : UInt8)).toNat : Int)
    intro ⟨l6, u6⟩ -- (0 : Int) ≤ n6 ∧ n6 ≤ (255 : Int)
    intro n9
    intro q9 -- n9 = IntKind.u32.wrap n6
    rw [IntKind.wrap_u32] at q9
    intro ⟨l9, u9⟩ -- (0 : Int) ≤ n9 ∧ n9 ≤ (4294967295 : Int)
    intro n12
    intro q12 -- n12 = bits BinOp.xor IntKind.u32 (↑v_1.snd : Int) n9
    rw [xor_u32 _ _ (by omega) (by omega) (by omega) (by omega)] at q12
    intro ⟨l12, u12⟩ -- (0 : Int) ≤ n12 ∧ n12 ≤ (4294967295 : Int)
    refine ⟨?_, ?_⟩
    · -- left
      refine ⟨(bitK (Int.toNat (0 : Int)) (crc (4294967295 : Nat) (List.take v_1.fst xs) ^^^ (xs.getD v_1.fst (0 : UInt8)).toNat), Int.toNat (0 : Int)), ?_⟩
      refine ⟨by first | with_reducible rfl | rfl, ?_⟩ -- xs = xs
      have h3 : n12 = (↑(bitK (Int.toNat (0 : Int)) (crc (4294967295 : Nat) (List.take v_1.fst xs) ^^^ (xs.getD v_1.fst (0 : UInt8)).toNat)) : Int) := by
        have e9 : n9 = ((xs.getD v_1.fst 0).toNat : Int) := by rw [Int.toNat_natCast] at q6; omega
        rw [q12, e9, h1.2.1]
        rfl
      refine ⟨h3, ?_⟩
      refine ⟨by first | with_reducible rfl | rfl, ?_⟩ -- (↑v_1.fst : Int) = (↑v_1.fst : Int)
      refine ⟨by show (0 : Int) = (↑(Int.toNat (0 : Int)) : Int); omega, ?_⟩ -- (0 : Int) = (↑(Int.toNat (0 : Int)) : Int)
      refine ⟨by show Int.toNat (0 : Int) ≤ (8 : Nat); omega, ?_⟩ -- Int.toNat (0 : Int) ≤ (8 : Nat)
      refine ⟨by first | with_reducible rfl | rfl, ?_⟩ -- bitK (Int.toNat (0 : Int)) (crc (4294967295 : Nat) (List.take v_1.fst xs) ^^^ (xs.getD v_1.fst (0 : UInt8)).toNat) = bitK (Int.toNat (0 : Int)) (crc (4294967295 : Nat) (List.take v_1.fst xs) ^^^ (xs.getD v_1.fst (0 : UInt8)).toNat)
      exact by show bitK (Int.toNat (0 : Int)) (crc (4294967295 : Nat) (List.take v_1.fst xs) ^^^ (xs.getD v_1.fst (0 : UInt8)).toNat) < (4294967296 : Nat); omega -- bitK (Int.toNat (0 : Int)) (crc (4294967295 : Nat) (List.take v_1.fst xs) ^^^ (xs.getD v_1.fst (0 : UInt8)).toNat) < (4294967296 : Nat)
    intro v_15
    intro h4 -- v_15.snd ≤ (8 : Nat) ∧ v_15.fst = bitK v_15.snd (crc (4294967295 : Nat) (List.take v_1.fst xs) ^^^ (xs.getD v_1.fst (0 : UInt8)).toNat) ∧ v_15.fst < (4294967296 : Nat)
    refine brd (fun c5 => ?_) (fun c5 => ?_) -- decide ((↑v_15.snd : Int) < (8 : Int))
    · -- yes
      refine ⟨by first | omega | (dsimp only; omega), ?_⟩ -- (2 : Int) ≠ (0 : Int)
      intro n17
      intro q17 -- n17 = (↑v_15.fst : Int).tmod (2 : Int)
      rw [Int.tmod_eq_emod_of_nonneg (by omega)] at q17
      intro ⟨l17, u17⟩ -- (0 : Int) ≤ n17 ∧ n17 ≤ (4294967295 : Int)
      refine ⟨by first | omega | (dsimp only; omega), ?_⟩ -- (2 : Int) ≠ (0 : Int)
      intro n20
      intro q20 -- n20 = IntKind.u32.wrap ((↑v_15.fst : Int).tdiv (2 : Int))
      rw [Int.tdiv_eq_ediv_of_nonneg (by omega)] at q20
      rw [IntKind.wrap_u32] at q20
      intro ⟨l20, u20⟩ -- (0 : Int) ≤ n20 ∧ n20 ≤ (4294967295 : Int)
      refine br_intro (fun c6 => ?_) (fun c6 => ?_) -- n17 == (1 : Int)
      · -- yes
        simp at c6 -- n17 = (1 : Int)
        intro n23
        intro q23 -- n23 = bits BinOp.xor IntKind.u32 n20 (3988292384 : Int)
        rw [xor_u32 _ _ (by omega) (by omega) (by omega) (by omega)] at q23
        intro ⟨l23, u23⟩ -- (0 : Int) ≤ n23 ∧ n23 ≤ (4294967295 : Int)
        intro n26
        intro q26 -- n26 = IntKind.i64.wrap ((↑v_15.snd : Int) + (1 : Int))
        rw [IntKind.wrap_i64] at q26
        intro ⟨l26, u26⟩ -- (-9223372036854775808 : Int) ≤ n26 ∧ n26 ≤ (9223372036854775807 : Int)
        refine ⟨(bitK n26.toNat (crc (4294967295 : Nat) (List.take v_1.fst xs) ^^^ (xs.getD v_1.fst (0 : UInt8)).toNat), n26.toNat), ?_⟩
        refine ⟨by first | with_reducible rfl | rfl, ?_⟩ -- xs = xs
        have h7 : n23 = (↑(bitK n26.toNat (crc (4294967295 : Nat) (List.take v_1.fst xs) ^^^ (xs.getD v_1.fst (0 : UInt8)).toNat)) : Int) := by
          rw [q23, show n26.toNat = v_15.snd + 1 by omega, bitK, ← h4.2.1]
          exact (bit_odd h4.2.2 q17 q20).1 c6
        refine ⟨h7, ?_⟩
        refine ⟨by first | with_reducible rfl | rfl, ?_⟩ -- (↑v_1.fst : Int) = (↑v_1.fst : Int)
        refine ⟨by show n26 = (↑n26.toNat : Int); omega, ?_⟩ -- n26 = (↑n26.toNat : Int)
        refine ⟨?_, ?_⟩
        · -- left
          refine ⟨by show n26.toNat ≤ (8 : Nat); omega, ?_⟩ -- n26.toNat ≤ (8 : Nat)
          refine ⟨by first | with_reducible rfl | rfl, ?_⟩ -- bitK n26.toNat (crc (4294967295 : Nat) (List.take v_1.fst xs) ^^^ (xs.getD v_1.fst (0 : UInt8)).toNat) = bitK n26.toNat (crc (4294967295 : Nat) (List.take v_1.fst xs) ^^^ (xs.getD v_1.fst (0 : UInt8)).toNat)
          exact by show bitK n26.toNat (crc (4294967295 : Nat) (List.take v_1.fst xs) ^^^ (xs.getD v_1.fst (0 : UInt8)).toNat) < (4294967296 : Nat); omega -- bitK n26.toNat (crc (4294967295 : Nat) (List.take v_1.fst xs) ^^^ (xs.getD v_1.fst (0 : UInt8)).toNat) < (4294967296 : Nat)
        exact by show (8 : Nat) - n26.toNat < (8 : Nat) - v_15.snd; omega -- (8 : Nat) - n26.toNat < (8 : Nat) - v_15.snd
      · -- no
        simp at c6 -- ¬n17 = (1 : Int)
        intro n29
        intro q29 -- n29 = IntKind.i64.wrap ((↑v_15.snd : Int) + (1 : Int))
        rw [IntKind.wrap_i64] at q29
        intro ⟨l29, u29⟩ -- (-9223372036854775808 : Int) ≤ n29 ∧ n29 ≤ (9223372036854775807 : Int)
        refine ⟨(bitK n29.toNat (crc (4294967295 : Nat) (List.take v_1.fst xs) ^^^ (xs.getD v_1.fst (0 : UInt8)).toNat), n29.toNat), ?_⟩
        refine ⟨by first | with_reducible rfl | rfl, ?_⟩ -- xs = xs
        have h8 : n20 = (↑(bitK n29.toNat (crc (4294967295 : Nat) (List.take v_1.fst xs) ^^^ (xs.getD v_1.fst (0 : UInt8)).toNat)) : Int) := by
          rw [show n29.toNat = v_15.snd + 1 by omega, bitK, ← h4.2.1]
          exact (bit_odd h4.2.2 q17 q20).2 c6
        refine ⟨h8, ?_⟩
        refine ⟨by first | with_reducible rfl | rfl, ?_⟩ -- (↑v_1.fst : Int) = (↑v_1.fst : Int)
        refine ⟨by show n29 = (↑n29.toNat : Int); omega, ?_⟩ -- n29 = (↑n29.toNat : Int)
        refine ⟨?_, ?_⟩
        · -- left
          refine ⟨by show n29.toNat ≤ (8 : Nat); omega, ?_⟩ -- n29.toNat ≤ (8 : Nat)
          refine ⟨by first | with_reducible rfl | rfl, ?_⟩ -- bitK n29.toNat (crc (4294967295 : Nat) (List.take v_1.fst xs) ^^^ (xs.getD v_1.fst (0 : UInt8)).toNat) = bitK n29.toNat (crc (4294967295 : Nat) (List.take v_1.fst xs) ^^^ (xs.getD v_1.fst (0 : UInt8)).toNat)
          exact by show bitK n29.toNat (crc (4294967295 : Nat) (List.take v_1.fst xs) ^^^ (xs.getD v_1.fst (0 : UInt8)).toNat) < (4294967296 : Nat); omega -- bitK n29.toNat (crc (4294967295 : Nat) (List.take v_1.fst xs) ^^^ (xs.getD v_1.fst (0 : UInt8)).toNat) < (4294967296 : Nat)
        exact by show (8 : Nat) - n29.toNat < (8 : Nat) - v_15.snd; omega -- (8 : Nat) - n29.toNat < (8 : Nat) - v_15.snd
    · -- no
      intro n32
      intro q32 -- n32 = IntKind.i64.wrap ((↑v_1.fst : Int) + (1 : Int))
      rw [IntKind.wrap_i64] at q32
      intro ⟨l32, u32⟩ -- (-9223372036854775808 : Int) ≤ n32 ∧ n32 ≤ (9223372036854775807 : Int)
      refine ⟨(n32.toNat, crc (4294967295 : Nat) (List.take n32.toNat xs)), ?_⟩
      refine ⟨by first | with_reducible rfl | rfl, ?_⟩ -- xs = xs
      have h9 : (↑v_15.fst : Int) = (↑(crc (4294967295 : Nat) (List.take n32.toNat xs)) : Int) := by
        have e := h4.2.1
        rw [show v_15.snd = 8 by omega, bit8 (by have := (xs.getD v_1.fst 0).toNat_lt; omega)] at e
        rw [show n32.toNat = v_1.fst + 1 by omega, crc_step (by omega), e]
      refine ⟨h9, ?_⟩
      refine ⟨by show n32 = (↑n32.toNat : Int); omega, ?_⟩ -- n32 = (↑n32.toNat : Int)
      refine ⟨?_, ?_⟩
      · -- left
        refine ⟨by show n32.toNat ≤ xs.length; omega, ?_⟩ -- n32.toNat ≤ xs.length
        refine ⟨by first | with_reducible rfl | rfl, ?_⟩ -- crc (4294967295 : Nat) (List.take n32.toNat xs) = crc (4294967295 : Nat) (List.take n32.toNat xs)
        exact by show crc (4294967295 : Nat) (List.take n32.toNat xs) < (4294967296 : Nat); omega -- crc (4294967295 : Nat) (List.take n32.toNat xs) < (4294967296 : Nat)
      exact by show xs.length - n32.toNat < xs.length - v_1.fst; omega -- xs.length - n32.toNat < xs.length - v_1.fst
  · -- no
    intro n35
    intro q35 -- n35 = bits BinOp.xor IntKind.u32 (4294967295 : Int) (↑v_1.snd : Int)
    rw [xor_u32 _ _ (by omega) (by omega) (by omega) (by omega)] at q35
    intro ⟨l35, u35⟩ -- (0 : Int) ≤ n35 ∧ n35 ≤ (4294967295 : Int)
    -- k (AV.int IntKind.u32 n35) [] []
    refine hk n35 ?_ ⟨by omega, by omega⟩
    rw [q35, Int.toNat_natCast]
    show ((4294967295 ^^^ v_1.snd : Nat) : Int) = _
    rw [not32 h1.2.2, h1.2.1, List.take_of_length_le (by omega)]
    rfl

theorem rsum_ok : Holds Try.prog 33 sumS := by
  refine fn_sound (env := mkEnv T0) (tab_ok T0_ok) Try.func33 Try.call33 fun args k h => ?_
  match args, h with
  | [.sl 0 xs], h => exact ⟨by kernel_rfl, rsumLoops xs, fun _ _ => none, .cast (by kernel_rfl) (rsum_vc xs k h)⟩
set_option maxHeartbeats 2000000 in
theorem rfour_vc (n : Int) (n0 : (0 : Int) ≤ n) (n1 : n ≤ (4294967295 : Int)) (k : AV → List (Option Blk) → List Blk → Prop) (hk : ∀ (ys : List UInt8) (q : Nat), ys = putL n.toNat (4 : Nat) → ys.length = q → k (AV.row (0 : Nat) (0 : Nat) (0 : Nat) q) [] [Blk.row (0 : Nat) ys]) :
  ∀ (n1 : Int),
  (n1 = IntKind.u64.wrap n) →
  ((0 : Int) ≤ n1 ∧ n1 ≤ (18446744073709551615 : Int)) →
  (
   ((0 : Int) ≤ n1) ∧
   (n1 ≤ (18446744073709551615 : Int))) ∧
  (
   ((-9223372036854775808 : Int) ≤ (4 : Int)) ∧
   ((4 : Int) ≤ (9223372036854775807 : Int))) ∧
  ∀ (ys_4 : List UInt8),
  ∀ (q_5 : Nat),
  ∀ (e_6 : Int),
  (ys_4 = putF n1 (4 : Int)) →
  (ys_4.length = q_5) →
  (e_6 = putE n1 (4 : Int)) →
  (e_6 = (0 : Int) ∨ e_6 = (2 : Int)) →
  (k (AV.row (0 : Nat) (0 : Nat) (0 : Nat) q_5) [] [Blk.row (0 : Nat) ys_4]) := by
  intro n1
  intro q1 -- n1 = IntKind.u64.wrap n
  rw [IntKind.wrap_u64] at q1
  intro ⟨l1, u1⟩ -- (0 : Int) ≤ n1 ∧ n1 ≤ (18446744073709551615 : Int)
  refine ⟨by exact ⟨by assumption, by assumption⟩, ?_⟩ -- (0 : Int) ≤ n1 ∧ n1 ≤ (18446744073709551615 : Int)
  refine ⟨by first | omega | (dsimp only; omega), ?_⟩ -- (-9223372036854775808 : Int) ≤ (4 : Int) ∧ (4 : Int) ≤ (9223372036854775807 : Int)
  intro ys_4
  intro q_5
  intro e_6
  intro h1 -- ys_4 = putF n1 (4 : Int)
  intro h2 -- ys_4.length = q_5
  intro h3 -- e_6 = putE n1 (4 : Int)
  intro h4 -- e_6 = (0 : Int) ∨ e_6 = (2 : Int)
  -- k (AV.row (0 : Nat) (0 : Nat) (0 : Nat) q_5) [] [Blk.row (0 : Nat) ys_4]
  exact hk _ _ (by rw [h1, putF4 (by omega) (by omega)]; congr 1; omega) h2

theorem rfour_ok : Holds Try.prog 32 fourS := by
  refine fn_sound (env := mkEnv U1) (tab_ok U1_ok) Try.func32 Try.call32 fun args k h => ?_
  match args, h with
  | [.int .u32 n], h => exact ⟨by kernel_rfl, fun _ _ => none, fun _ _ => none, .cast (by kernel_rfl) (rfour_vc n h.1.1 h.1.2 k h.2)⟩
theorem U2_ok : TabOk Try.prog U2 := ⟨rfour_ok, rsum_ok, trivial⟩
set_option maxHeartbeats 2000000 in
theorem rstuff_vc (b : List UInt8) (hx : b.length ≤ (1000000 : Nat)) (k : AV → List (Option Blk) → List Blk → Prop) (hk : ∀ (ys : List UInt8) (n : Nat), ys = stf b → ys.length = n → k (AV.row (0 : Nat) (0 : Nat) (0 : Nat) n) [] [Blk.row (0 : Nat) ys]) :
  (
   ∃ (v : Nat × Nat × List UInt8),
   (b = b) ∧
   ((0 : Nat) = (0 : Nat)) ∧
   ((0 : Nat) = v.snd.fst) ∧
   ((0 : Int) = (↑v.fst : Int)) ∧
   ([] = v.snd.snd) ∧
   (v.fst ≤ b.length) ∧
   (v.snd.snd = stf (List.take v.fst b)) ∧
   (v.snd.snd.length = v.snd.fst) ∧
   (v.snd.fst ≤ (2 : Nat) * v.fst) ∧
   (b.length ≤ (1000000 : Nat))) ∧
  ∀ (v_1 : Nat × Nat × List UInt8),
  (v_1.fst ≤ b.length ∧ v_1.snd.snd = stf (List.take v_1.fst b) ∧ v_1.snd.snd.length = v_1.snd.fst ∧ v_1.snd.fst ≤ (2 : Nat) * v_1.fst ∧ b.length ≤ (1000000 : Nat)) →
  ∀ (n3 : Int),
  (n3 = (↑b.length : Int)) →
  ((-9223372036854775808 : Int) ≤ n3 ∧ n3 ≤ (9223372036854775807 : Int)) →
  br (decide ((↑v_1.fst : Int) < n3))
   (((0 : Int) ≤ (↑v_1.fst : Int)) ∧
    ((↑v_1.fst : Int) < (↑b.length : Int)) ∧
    ∀ (n6 : Int),
    (n6 = (↑(b.getD (↑v_1.fst : Int).toNat (0 : UInt8)).toNat : Int)) →
    ((0 : Int) ≤ n6 ∧ n6 ≤ (255 : Int)) →
    (
     ((n6 == (125 : Int)) = false) →
     ((0 : Int) ≤ (↑v_1.fst : Int)) ∧
     ((↑v_1.fst : Int) < (↑b.length : Int))) ∧
    ∀ (n10 : Int),
    (n10 = (↑(b.getD (↑v_1.fst : Int).toNat (0 : UInt8)).toNat : Int)) →
    br (bif n6 == (125 : Int) then true else n10 == (126 : Int))
     (((0 : Int) ≤ (↑v_1.fst : Int)) ∧
      ((↑v_1.fst : Int) < (↑b.length : Int)) ∧
      ∀ (n12 : Int),
      (n12 = (↑(b.getD (↑v_1.fst : Int).toNat (0 : UInt8)).toNat : Int)) →
      ((0 : Int) ≤ n12 ∧ n12 ≤ (255 : Int)) →
      ∀ (n15 : Int),
      (n15 = IntKind.u8.wrap (n12 - (32 : Int))) →
      ((0 : Int) ≤ n15 ∧ n15 ≤ (255 : Int)) →
      ((v_1.snd.fst + (2 : Nat)) * (1 : Nat) ≤ (140737488355328 : Nat)) ∧
      ∀ (z18 : List UInt8),
      (z18 = List.take v_1.snd.fst v_1.snd.snd ++ List.take (2 : Nat) (List.drop (0 : Nat) [UInt8.ofNat (Int.toNat (125 : Int)), UInt8.ofNat n15.toNat])) →
      ∀ (n20 : Int),
      (n20 = IntKind.i64.wrap ((↑v_1.fst : Int) + (1 : Int))) →
      ((-9223372036854775808 : Int) ≤ n20 ∧ n20 ≤ (9223372036854775807 : Int)) →
      ∃ (v' : Nat × Nat × List UInt8),
      (b = b) ∧
      ((0 : Nat) = (0 : Nat)) ∧
      (v_1.snd.fst + (2 : Nat) = v'.snd.fst) ∧
      (n20 = (↑v'.fst : Int)) ∧
      (z18 = v'.snd.snd) ∧
      (
       (v'.fst ≤ b.length) ∧
       (v'.snd.snd = stf (List.take v'.fst b)) ∧
       (v'.snd.snd.length = v'.snd.fst) ∧
       (v'.snd.fst ≤ (2 : Nat) * v'.fst) ∧
       (b.length ≤ (1000000 : Nat))) ∧
      (b.length - v'.fst < b.length - v_1.fst))
     (((0 : Int) ≤ (↑v_1.fst : Int)) ∧
      ((↑v_1.fst : Int) < (↑b.length : Int)) ∧
      ∀ (n23 : Int),
      (n23 = (↑(b.getD (↑v_1.fst : Int).toNat (0 : UInt8)).toNat : Int)) →
      ((0 : Int) ≤ n23 ∧ n23 ≤ (255 : Int)) →
      ((v_1.snd.fst + (1 : Nat)) * (1 : Nat) ≤ (140737488355328 : Nat)) ∧
      ∀ (z26 : List UInt8),
      (z26 = List.take v_1.snd.fst v_1.snd.snd ++ List.take (1 : Nat) (List.drop (0 : Nat) [UInt8.ofNat n23.toNat])) →
      ∀ (n28 : Int),
      (n28 = IntKind.i64.wrap ((↑v_1.fst : Int) + (1 : Int))) →
      ((-9223372036854775808 : Int) ≤ n28 ∧ n28 ≤ (9223372036854775807 : Int)) →
      ∃ (v' : Nat × Nat × List UInt8),
      (b = b) ∧
      ((0 : Nat) = (0 : Nat)) ∧
      (v_1.snd.fst + (1 : Nat) = v'.snd.fst) ∧
      (n28 = (↑v'.fst : Int)) ∧
      (z26 = v'.snd.snd) ∧
      (
       (v'.fst ≤ b.length) ∧
       (v'.snd.snd = stf (List.take v'.fst b)) ∧
       (v'.snd.snd.length = v'.snd.fst) ∧
       (v'.snd.fst ≤ (2 : Nat) * v'.fst) ∧
       (b.length ≤ (1000000 : Nat))) ∧
      (b.length - v'.fst < b.length - v_1.fst)))
   ((k (AV.row (0 : Nat) (0 : Nat) (0 : Nat) v_1.snd.fst) [] [Blk.row (0 : Nat) v_1.snd.snd])) := by
  refine ⟨?_, ?_⟩
  · -- left
    refine ⟨(Int.toNat (0 : Int), (0 : Nat), []), ?_⟩
    refine ⟨by first | with_reducible rfl | rfl, ?_⟩ -- b = b
    refine ⟨by first | with_reducible rfl | rfl, ?_⟩ -- (0 : Nat) = (0 : Nat)
    refine ⟨by first | with_reducible rfl | rfl, ?_⟩ -- (0 : Nat) = (0 : Nat)
    refine ⟨by show (0 : Int) = (↑(Int.toNat (0 : Int)) : Int); omega, ?_⟩ -- (0 : Int) = (↑(Int.toNat (0 : Int)) : Int)
    refine ⟨by first | with_reducible rfl | rfl, ?_⟩ -- [] = []
    refine ⟨by show Int.toNat (0 : Int) ≤ b.length; omega, ?_⟩ -- Int.toNat (0 : Int) ≤ b.length
    refine ⟨by rfl, ?_⟩ -- [] = stf (List.take (Int.toNat (0 : Int)) b)
    refine ⟨by first | with_reducible rfl | rfl, ?_⟩ -- (0 : Nat) = (0 : Nat)
    refine ⟨by show (0 : Nat) ≤ (2 : Nat) * Int.toNat (0 : Int); omega, ?_⟩ -- (0 : Nat) ≤ (2 : Nat) * Int.toNat (0 : Int)
    exact by show b.length ≤ (1000000 : Nat); assumption -- b.length ≤ (1000000 : Nat)
  intro v_1
  intro h1 -- v_1.fst ≤ b.length ∧ v_1.snd.snd = stf (List.take v_1.fst b) ∧ v_1.snd.snd.length = v_1.snd.fst ∧ v_1.snd.fst ≤ (2 : Nat) * v_1.fst ∧ b.length ≤ (1000000 : Nat)
  intro n3
  intro q3 -- n3 = (↑b.length : Int)
  intro ⟨l3, u3⟩ -- (-9223372036854775808 : Int) ≤ n3 ∧ n3 ≤ (9223372036854775807 : Int)
  refine brd (fun c2 => ?_) (fun c2 => ?_) -- decide ((↑v_1.fst : Int) < n3)
  · -- yes
    refine ⟨by first | omega | (dsimp only; omega), ?_⟩ -- (0 : Int) ≤ (↑v_1.fst : Int)
    refine ⟨by first | omega | (dsimp only; omega), ?_⟩ -- (↑v_1.fst : Int) < (↑b.length : Int)
    intro n6
    intro q6 -- n6 = (↑(b.getD (↑v_1.fst : Int).toNat (0 : UInt8)).toNat : Int)
    intro ⟨l6, u6⟩ -- (0 : Int) ≤ n6 ∧ n6 ≤ (255 : Int)
    refine ⟨?_, ?_⟩
    · -- left
      intro h3 -- (n6 == (125 : Int)) = false
      simp at h3 -- ¬n6 = (125 : Int)
      refine ⟨by first | omega | (dsimp only; omega), ?_⟩ -- (0 : Int) ≤ (↑v_1.fst : Int)
      exact by omega -- (↑v_1.fst : Int) < (↑b.length : Int)
    intro n10
    intro q10 -- n10 = (↑(b.getD (↑v_1.fst : Int).toNat (0 : UInt8)).toNat : Int)
    refine br_intro (fun c4 => ?_) (fun c4 => ?_) -- bif n6 == (125 : Int) then true else n10 == (126 : Int)
    · -- yes
      simp at c4 -- n6 = (125 : Int) ∨ n10 = (126 : Int)
      refine ⟨by first | omega | (dsimp only; omega), ?_⟩ -- (0 : Int) ≤ (↑v_1.fst : Int)
      refine ⟨by first | omega | (dsimp only; omega), ?_⟩ -- (↑v_1.fst : Int) < (↑b.length : Int)
      intro n12
      intro q12 -- n12 = (↑(b.getD (↑v_1.fst : Int).toNat (0 : UInt8)).toNat : Int)
      intro ⟨l12, u12⟩ -- (0 : Int) ≤ n12 ∧ n12 ≤ (255 : Int)
      intro n15
      intro q15 -- n15 = IntKind.u8.wrap (n12 - (32 : Int))
      rw [IntKind.wrap_u8] at q15
      intro ⟨l15, u15⟩ -- (0 : Int) ≤ n15 ∧ n15 ≤ (255 : Int)
      refine ⟨by first | omega | (dsimp only; omega), ?_⟩ -- (v_1.snd.fst + (2 : Nat)) * (1 : Nat) ≤ (140737488355328 : Nat)
      intro z18
      intro qz18 -- z18 = List.take v_1.snd.fst v_1.snd.snd ++ List.take (2 : Nat) (List.drop (0 : Nat) [UInt8.ofNat (Int.toNat (125 : Int)), UInt8.ofNat n15.toNat])
      intro n20
      intro q20 -- n20 = IntKind.i64.wrap ((↑v_1.fst : Int) + (1 : Int))
      rw [IntKind.wrap_i64] at q20
      intro ⟨l20, u20⟩ -- (-9223372036854775808 : Int) ≤ n20 ∧ n20 ≤ (9223372036854775807 : Int)
      refine ⟨(n20.toNat, v_1.snd.fst + (2 : Nat), z18), ?_⟩
      refine ⟨by first | with_reducible rfl | rfl, ?_⟩ -- b = b
      refine ⟨by first | with_reducible rfl | rfl, ?_⟩ -- (0 : Nat) = (0 : Nat)
      refine ⟨by first | with_reducible rfl | rfl, ?_⟩ -- v_1.snd.fst + (2 : Nat) = v_1.snd.fst + (2 : Nat)
      refine ⟨by show n20 = (↑n20.toNat : Int); omega, ?_⟩ -- n20 = (↑n20.toNat : Int)
      refine ⟨by first | with_reducible rfl | rfl, ?_⟩ -- z18 = z18
      refine ⟨?_, ?_⟩
      · -- left
        refine ⟨by show n20.toNat ≤ b.length; omega, ?_⟩ -- n20.toNat ≤ b.length
        have h5 : z18 = stf (List.take n20.toNat b) := by
          have bx : n6 = ((b.getD v_1.fst 0).toNat : Int) := by rw [q6, Int.toNat_natCast]
          have by_ : n12 = ((b.getD v_1.fst 0).toNat : Int) := by rw [q12, Int.toNat_natCast]
          have bz : n10 = ((b.getD v_1.fst 0).toNat : Int) := by rw [q10, Int.toNat_natCast]
          have A := sub32 by_ (by omega) q15
          rw [show n20.toNat = v_1.fst + 1 by omega, stf_step (by omega), if_pos A.2, ← h1.2.1, qz18, A.1, List.take_of_length_le (by omega)]
          rfl
        refine ⟨h5, ?_⟩
        have h6 : z18.length = v_1.snd.fst + (2 : Nat) := by
          rw [qz18]; simp; omega
        refine ⟨h6, ?_⟩
        refine ⟨by show v_1.snd.fst + (2 : Nat) ≤ (2 : Nat) * n20.toNat; omega, ?_⟩ -- v_1.snd.fst + (2 : Nat) ≤ (2 : Nat) * n20.toNat
        exact by show b.length ≤ (1000000 : Nat); assumption -- b.length ≤ (1000000 : Nat)
      exact by show b.length - n20.toNat < b.length - v_1.fst; omega -- b.length - n20.toNat < b.length - v_1.fst
    · -- no
      simp at c4 -- ¬n6 = (125 : Int) ∧ ¬n10 = (126 : Int)
      refine ⟨by first | omega | (dsimp only; omega), ?_⟩ -- (0 : Int) ≤ (↑v_1.fst : Int)
      refine ⟨by first | omega | (dsimp only; omega), ?_⟩ -- (↑v_1.fst : Int) < (↑b.length : Int)
      intro n23
      intro q23 -- n23 = (↑(b.getD (↑v_1.fst : Int).toNat (0 : UInt8)).toNat : Int)
      intro ⟨l23, u23⟩ -- (0 : Int) ≤ n23 ∧ n23 ≤ (255 : Int)
      refine ⟨by first | omega | (dsimp only; omega), ?_⟩ -- (v_1.snd.fst + (1 : Nat)) * (1 : Nat) ≤ (140737488355328 : Nat)
      intro z26
      intro qz26 -- z26 = List.take v_1.snd.fst v_1.snd.snd ++ List.take (1 : Nat) (List.drop (0 : Nat) [UInt8.ofNat n23.toNat])
      intro n28
      intro q28 -- n28 = IntKind.i64.wrap ((↑v_1.fst : Int) + (1 : Int))
      rw [IntKind.wrap_i64] at q28
      intro ⟨l28, u28⟩ -- (-9223372036854775808 : Int) ≤ n28 ∧ n28 ≤ (9223372036854775807 : Int)
      refine ⟨(n28.toNat, v_1.snd.fst + (1 : Nat), z26), ?_⟩
      refine ⟨by first | with_reducible rfl | rfl, ?_⟩ -- b = b
      refine ⟨by first | with_reducible rfl | rfl, ?_⟩ -- (0 : Nat) = (0 : Nat)
      refine ⟨by first | with_reducible rfl | rfl, ?_⟩ -- v_1.snd.fst + (1 : Nat) = v_1.snd.fst + (1 : Nat)
      refine ⟨by show n28 = (↑n28.toNat : Int); omega, ?_⟩ -- n28 = (↑n28.toNat : Int)
      refine ⟨by first | with_reducible rfl | rfl, ?_⟩ -- z26 = z26
      refine ⟨?_, ?_⟩
      · -- left
        refine ⟨by show n28.toNat ≤ b.length; omega, ?_⟩ -- n28.toNat ≤ b.length
        have h7 : z26 = stf (List.take n28.toNat b) := by
          have bx : n6 = ((b.getD v_1.fst 0).toNat : Int) := by rw [q6, Int.toNat_natCast]
          have bz : n10 = ((b.getD v_1.fst 0).toNat : Int) := by rw [q10, Int.toNat_natCast]
          have by_ : n23 = ((b.getD v_1.fst 0).toNat : Int) := by rw [q23, Int.toNat_natCast]
          rw [show n28.toNat = v_1.fst + 1 by omega, stf_step (by omega), if_neg (notE by_ (by omega)), ← h1.2.1, qz26, by_, Int.toNat_natCast, UInt8.ofNat_toNat, List.take_of_length_le (by omega)]
          rfl
        refine ⟨h7, ?_⟩
        have h8 : z26.length = v_1.snd.fst + (1 : Nat) := by
          rw [qz26]; simp; omega
        refine ⟨h8, ?_⟩
        refine ⟨by show v_1.snd.fst + (1 : Nat) ≤ (2 : Nat) * n28.toNat; omega, ?_⟩ -- v_1.snd.fst + (1 : Nat) ≤ (2 : Nat) * n28.toNat
        exact by show b.length ≤ (1000000 : Nat); assumption -- b.length ≤ (1000000 : Nat)
      exact by show b.length - n28.toNat < b.length - v_1.fst; omega -- b.length - n28.toNat < b.length - v_1.fst
  · -- no
    -- k (AV.row (0 : Nat) (0 : Nat) (0 : Nat) v_1.snd.fst) [] [Blk.row (0 : Nat) v_1.snd.snd]
    exact hk _ _ (by rw [h1.2.1, List.take_of_length_le (by omega)]) (by omega)

theorem rstuff_ok : Holds Try.prog 20 stuffS := by
  refine fn_sound (env := mkEnv T0) (tab_ok T0_ok) Try.func20 Try.call20 fun args k h => ?_
  match args, h with
  | [.sl 0 b], h => exact ⟨by kernel_rfl, rstuffLoops b, fun _ _ => none, .cast (by kernel_rfl) (rstuff_vc b h.1 k h.2)⟩
set_option maxHeartbeats 2000000 in
theorem rinside_vc (kd : Int) (kd0 : (0 : Int) ≤ kd) (kd1 : kd ≤ (255 : Int)) (sq : Int) (sq0 : (0 : Int) ≤ sq) (sq1 : sq ≤ (4294967295 : Int)) (bo : List UInt8) (k : AV → List (Option Blk) → List Blk → Prop) (hk : ((512 : Nat) < bo.length → k (AV.tup [AV.nilsl, AV.int IntKind.i64 (3 : Int)]) [] []) ∧ (bo.length ≤ (512 : Nat) → ∀ (ys : List UInt8) (n : Nat), ys = ins kd sq bo → ys.length = n → k (AV.tup [AV.row (0 : Nat) (0 : Nat) (0 : Nat) n, AV.int IntKind.i64 (0 : Int)]) [] [Blk.row (0 : Nat) ys])) :
  ∀ (n1 : Int),
  (n1 = (↑bo.length : Int)) →
  ((-9223372036854775808 : Int) ≤ n1 ∧ n1 ≤ (9223372036854775807 : Int)) →
  br (decide (n1 > (512 : Int)))
   ((k (AV.tup [AV.nilsl, AV.int IntKind.i64 (3 : Int)]) [] []))
   (∀ (n4 : Int),
    (n4 = kd) →
    ((0 : Int) ≤ n4 ∧ n4 ≤ (255 : Int)) →
    ∀ (n7 : Int),
    (n7 = sq) →
    ((0 : Int) ≤ n7 ∧ n7 ≤ (4294967295 : Int)) →
    (
     ((0 : Int) ≤ n7) ∧
     (n7 ≤ (4294967295 : Int))) ∧
    ∀ (ys_10 : List UInt8),
    ∀ (q_11 : Nat),
    (ys_10 = putL n7.toNat (4 : Nat)) →
    (ys_10.length = q_11) →
    (((1 : Nat) + q_11) * (1 : Nat) ≤ (140737488355328 : Nat)) ∧
    ∀ (z14 : List UInt8),
    (z14 = List.take (1 : Nat) [UInt8.ofNat n4.toNat] ++ List.take q_11 (List.drop (0 : Nat) ys_10)) →
    (((1 : Nat) + q_11 + bo.length) * (1 : Nat) ≤ (140737488355328 : Nat)) ∧
    ∀ (z16 : List UInt8),
    (z16 = List.take ((1 : Nat) + q_11) z14 ++ bo) →
    ∀ (n_18 : Int),
    (n_18 = (↑(sumN (List.take ((1 : Nat) + q_11 + bo.length) (List.drop (0 : Nat) z16))) : Int)) →
    ((0 : Int) ≤ n_18 ∧ n_18 ≤ (4294967295 : Int)) →
    (
     ((0 : Int) ≤ n_18) ∧
     (n_18 ≤ (4294967295 : Int))) ∧
    ∀ (ys_21 : List UInt8),
    ∀ (q_22 : Nat),
    (ys_21 = putL n_18.toNat (4 : Nat)) →
    (ys_21.length = q_22) →
    (((1 : Nat) + q_11 + bo.length + q_22) * (1 : Nat) ≤ (140737488355328 : Nat)) ∧
    ∀ (z25 : List UInt8),
    (z25 = List.take ((1 : Nat) + q_11 + bo.length) z16 ++ List.take q_22 (List.drop (0 : Nat) ys_21)) →
    (k (AV.tup [AV.row (0 : Nat) (0 : Nat) (0 : Nat) ((1 : Nat) + q_11 + bo.length + q_22), AV.int IntKind.i64 (0 : Int)]) [] [Blk.row (0 : Nat) z25])) := by
  intro n1
  intro q1 -- n1 = (↑bo.length : Int)
  intro ⟨l1, u1⟩ -- (-9223372036854775808 : Int) ≤ n1 ∧ n1 ≤ (9223372036854775807 : Int)
  refine brd (fun c1 => ?_) (fun c1 => ?_) -- decide (n1 > (512 : Int))
  · -- yes
    -- k (AV.tup [AV.nilsl, AV.int IntKind.i64 (3 : Int)]) [] []
    exact hk.1 (by omega)
  · -- no
    intro n4
    intro q4 -- n4 = kd
    intro ⟨l4, u4⟩ -- (0 : Int) ≤ n4 ∧ n4 ≤ (255 : Int)
    intro n7
    intro q7 -- n7 = sq
    intro ⟨l7, u7⟩ -- (0 : Int) ≤ n7 ∧ n7 ≤ (4294967295 : Int)
    refine ⟨by exact ⟨by assumption, by assumption⟩, ?_⟩ -- (0 : Int) ≤ n7 ∧ n7 ≤ (4294967295 : Int)
    intro ys_10
    intro q_11
    intro h2 -- ys_10 = putL n7.toNat (4 : Nat)
    intro h3 -- ys_10.length = q_11
    have h4 : ((1 : Nat) + q_11) * (1 : Nat) ≤ (140737488355328 : Nat) := by
      have P1 : ys_10 = putL sq.toNat 4 := by rw [h2]; congr 1; omega
      have e11 : q_11 = 4 := by rw [← h3, P1, putL_len]
      omega
    refine ⟨h4, ?_⟩
    intro z14
    intro qz14 -- z14 = List.take (1 : Nat) [UInt8.ofNat n4.toNat] ++ List.take q_11 (List.drop (0 : Nat) ys_10)
    have h5 : ((1 : Nat) + q_11 + bo.length) * (1 : Nat) ≤ (140737488355328 : Nat) := by
      have P1 : ys_10 = putL sq.toNat 4 := by rw [h2]; congr 1; omega
      have e11 : q_11 = 4 := by rw [← h3, P1, putL_len]
      omega
    refine ⟨h5, ?_⟩
    intro z16
    intro qz16 -- z16 = List.take ((1 : Nat) + q_11) z14 ++ bo
    intro n_18
    intro h6 -- n_18 = (↑(sumN (List.take ((1 : Nat) + q_11 + bo.length) (List.drop (0 : Nat) z16))) : Int)
    intro ⟨a7, b7⟩ -- (0 : Int) ≤ n_18 ∧ n_18 ≤ (4294967295 : Int)
    refine ⟨by exact ⟨by assumption, by assumption⟩, ?_⟩ -- (0 : Int) ≤ n_18 ∧ n_18 ≤ (4294967295 : Int)
    intro ys_21
    intro q_22
    intro h8 -- ys_21 = putL n_18.toNat (4 : Nat)
    intro h9 -- ys_21.length = q_22
    have h10 : ((1 : Nat) + q_11 + bo.length + q_22) * (1 : Nat) ≤ (140737488355328 : Nat) := by
      have P1 : ys_10 = putL sq.toNat 4 := by rw [h2]; congr 1; omega
      have e11 : q_11 = 4 := by rw [← h3, P1, putL_len]
      have e4 : n4 = kd := by omega
      have C : z16 = core kd sq bo := by
        rw [qz16, qz14, P1, e11, e4]
        rfl
      have lC : (core kd sq bo).length = 5 + bo.length := by unfold core; simp [putL_len]; omega
      have S : n_18 = (sumN (core kd sq bo) : Nat) := by rw [h6, C, e11, List.drop_zero, List.take_of_length_le (by rw [lC]; omega)]
      have P2 : ys_21 = putL (sumN (core kd sq bo)) 4 := by rw [h8]; congr 1; omega
      have e22 : q_22 = 4 := by rw [← h9, P2, putL_len]
      omega
    refine ⟨h10, ?_⟩
    intro z25
    intro qz25 -- z25 = List.take ((1 : Nat) + q_11 + bo.length) z16 ++ List.take q_22 (List.drop (0 : Nat) ys_21)
    -- k (AV.tup [AV.row (0 : Nat) (0 : Nat) (0 : Nat) ((1 : Nat) + q_11 + bo.length + q_22), AV.int IntKind.i64 (0 : Int)]) [] [Blk.row (0 : Nat) z25]
    have P1 : ys_10 = putL sq.toNat 4 := by rw [h2]; congr 1; omega
    have e11 : q_11 = 4 := by rw [← h3, P1, putL_len]
    have e4 : n4 = kd := by omega
    have C : z16 = core kd sq bo := by
      rw [qz16, qz14, P1, e11, e4]
      rfl
    have lC : (core kd sq bo).length = 5 + bo.length := by unfold core; simp [putL_len]; omega
    have S : n_18 = (sumN (core kd sq bo) : Nat) := by rw [h6, C, e11, List.drop_zero, List.take_of_length_le (by rw [lC]; omega)]
    have P2 : ys_21 = putL (sumN (core kd sq bo)) 4 := by rw [h8]; congr 1; omega
    have e22 : q_22 = 4 := by rw [← h9, P2, putL_len]
    have Z : z25 = ins kd sq bo := by
      rw [qz25, C, P2, e11, e22, List.take_of_length_le (by rw [lC]; omega)]
      unfold ins
      congr 1
    exact hk.2 (by omega) _ _ Z (by rw [Z, e11, e22]; unfold ins; rw [List.length_append, lC, putL_len]; try omega)

theorem rinside_ok : Holds Try.prog 11 insideS := by
  refine fn_sound (env := mkEnv U2) (tab_ok U2_ok) Try.func11 Try.call11 fun args k h => ?_
  match args, h with
  | [.agg [.int .u8 kd, .int .u32 sq, .sl 0 bo]], h => exact ⟨by kernel_rfl, fun _ _ => none, fun _ _ => none, .cast (by kernel_rfl) (rinside_vc kd h.1.1 h.1.2 sq h.2.1.1 h.2.1.2 bo k h.2.2)⟩
theorem U3_ok : TabOk Try.prog U3 := ⟨rstuff_ok, rinside_ok, trivial⟩
set_option maxHeartbeats 2000000 in
theorem rbare_vc (b : List UInt8) (hx : b.length ≤ (1000000 : Nat)) (k : AV → List (Option Blk) → List Blk → Prop) (hk : (bare b = none → k (AV.tup [AV.nilsl, AV.int IntKind.i64 (8 : Int)]) [] []) ∧ ∀ (o : List UInt8) (n : Nat), bare b = some o → o.length = n → k (AV.tup [AV.row (0 : Nat) (0 : Nat) (0 : Nat) n, AV.int IntKind.i64 (0 : Int)]) [] [Blk.row (0 : Nat) o]) :
  (
   ∃ (v : Nat × Nat × List UInt8),
   (b = b) ∧
   ((0 : Nat) = (0 : Nat)) ∧
   ((0 : Nat) = v.snd.fst) ∧
   ((0 : Int) = (↑v.fst : Int)) ∧
   ([] = v.snd.snd) ∧
   (v.fst ≤ b.length) ∧
   (v.snd.snd ++ rb (List.drop v.fst b) = rb b) ∧
   (v.snd.snd.length = v.snd.fst) ∧
   (v.snd.fst ≤ v.fst) ∧
   (b.length ≤ (1000000 : Nat))) ∧
  ∀ (v_1 : Nat × Nat × List UInt8),
  (v_1.fst ≤ b.length ∧ v_1.snd.snd ++ rb (List.drop v_1.fst b) = rb b ∧ v_1.snd.snd.length = v_1.snd.fst ∧ v_1.snd.fst ≤ v_1.fst ∧ b.length ≤ (1000000 : Nat)) →
  ∀ (n3 : Int),
  (n3 = (↑b.length : Int)) →
  ((-9223372036854775808 : Int) ≤ n3 ∧ n3 ≤ (9223372036854775807 : Int)) →
  br (decide ((↑v_1.fst : Int) < n3))
   (((0 : Int) ≤ (↑v_1.fst : Int)) ∧
    ((↑v_1.fst : Int) < (↑b.length : Int)) ∧
    ∀ (n6 : Int),
    (n6 = (↑(b.getD (↑v_1.fst : Int).toNat (0 : UInt8)).toNat : Int)) →
    ((0 : Int) ≤ n6 ∧ n6 ≤ (255 : Int)) →
    ∀ (n9 : Int),
    (n9 = IntKind.i64.wrap ((↑v_1.fst : Int) + (1 : Int))) →
    ∀ (n11 : Int),
    (n11 = (↑b.length : Int)) →
    ∀ (n13 : Int),
    (n13 = IntKind.i64.wrap ((↑v_1.fst : Int) + (1 : Int))) →
    (
     ((bif n6 == (125 : Int) then decide (n9 < n11) else false) = true) →
     ((0 : Int) ≤ n13) ∧
     (n13 < (↑b.length : Int))) ∧
    ∀ (n16 : Int),
    (n16 = (↑(b.getD n13.toNat (0 : UInt8)).toNat : Int)) →
    ∀ (n18 : Int),
    (n18 = IntKind.i64.wrap ((↑v_1.fst : Int) + (1 : Int))) →
    (
     ((n16 == (93 : Int)) = false ∧ (bif n6 == (125 : Int) then decide (n9 < n11) else false) = true) →
     ((0 : Int) ≤ n18) ∧
     (n18 < (↑b.length : Int))) ∧
    ∀ (n21 : Int),
    (n21 = (↑(b.getD n18.toNat (0 : UInt8)).toNat : Int)) →
    br (bif bif n6 == (125 : Int) then decide (n9 < n11) else false then bif n16 == (93 : Int) then true else n21 == (94 : Int) else false)
     (∀ (n23 : Int),
      (n23 = IntKind.i64.wrap ((↑v_1.fst : Int) + (1 : Int))) →
      ((-9223372036854775808 : Int) ≤ n23 ∧ n23 ≤ (9223372036854775807 : Int)) →
      ((0 : Int) ≤ n23) ∧
      (n23 < (↑b.length : Int)) ∧
      ∀ (n26 : Int),
      (n26 = (↑(b.getD n23.toNat (0 : UInt8)).toNat : Int)) →
      ((0 : Int) ≤ n26 ∧ n26 ≤ (255 : Int)) →
      ∀ (n29 : Int),
      (n29 = IntKind.u8.wrap (n26 + (32 : Int))) →
      ((0 : Int) ≤ n29 ∧ n29 ≤ (255 : Int)) →
      ((v_1.snd.fst + (1 : Nat)) * (1 : Nat) ≤ (140737488355328 : Nat)) ∧
      ∀ (z32 : List UInt8),
      (z32 = List.take v_1.snd.fst v_1.snd.snd ++ List.take (1 : Nat) (List.drop (0 : Nat) [UInt8.ofNat n29.toNat])) →
      ∀ (n34 : Int),
      (n34 = IntKind.i64.wrap ((↑v_1.fst : Int) + (1 : Int))) →
      ((-9223372036854775808 : Int) ≤ n34 ∧ n34 ≤ (9223372036854775807 : Int)) →
      ∀ (n37 : Int),
      (n37 = IntKind.i64.wrap (n34 + (1 : Int))) →
      ((-9223372036854775808 : Int) ≤ n37 ∧ n37 ≤ (9223372036854775807 : Int)) →
      ∃ (v' : Nat × Nat × List UInt8),
      (b = b) ∧
      ((0 : Nat) = (0 : Nat)) ∧
      (v_1.snd.fst + (1 : Nat) = v'.snd.fst) ∧
      (n37 = (↑v'.fst : Int)) ∧
      (z32 = v'.snd.snd) ∧
      (
       (v'.fst ≤ b.length) ∧
       (v'.snd.snd ++ rb (List.drop v'.fst b) = rb b) ∧
       (v'.snd.snd.length = v'.snd.fst) ∧
       (v'.snd.fst ≤ v'.fst) ∧
       (b.length ≤ (1000000 : Nat))) ∧
      (b.length - v'.fst < b.length - v_1.fst))
     (((0 : Int) ≤ (↑v_1.fst : Int)) ∧
      ((↑v_1.fst : Int) < (↑b.length : Int)) ∧
      ∀ (n40 : Int),
      (n40 = (↑(b.getD (↑v_1.fst : Int).toNat (0 : UInt8)).toNat : Int)) →
      ((0 : Int) ≤ n40 ∧ n40 ≤ (255 : Int)) →
      ((v_1.snd.fst + (1 : Nat)) * (1 : Nat) ≤ (140737488355328 : Nat)) ∧
      ∀ (z43 : List UInt8),
      (z43 = List.take v_1.snd.fst v_1.snd.snd ++ List.take (1 : Nat) (List.drop (0 : Nat) [UInt8.ofNat n40.toNat])) →
      ∀ (n45 : Int),
      (n45 = IntKind.i64.wrap ((↑v_1.fst : Int) + (1 : Int))) →
      ((-9223372036854775808 : Int) ≤ n45 ∧ n45 ≤ (9223372036854775807 : Int)) →
      ∃ (v' : Nat × Nat × List UInt8),
      (b = b) ∧
      ((0 : Nat) = (0 : Nat)) ∧
      (v_1.snd.fst + (1 : Nat) = v'.snd.fst) ∧
      (n45 = (↑v'.fst : Int)) ∧
      (z43 = v'.snd.snd) ∧
      (
       (v'.fst ≤ b.length) ∧
       (v'.snd.snd ++ rb (List.drop v'.fst b) = rb b) ∧
       (v'.snd.snd.length = v'.snd.fst) ∧
       (v'.snd.fst ≤ v'.fst) ∧
       (b.length ≤ (1000000 : Nat))) ∧
      (b.length - v'.fst < b.length - v_1.fst)))
   (((List.take v_1.snd.fst (List.drop (0 : Nat) v_1.snd.snd)).length ≤ (1000000 : Nat)) ∧
    ∀ (ys_48 : List UInt8),
    ∀ (n_49 : Nat),
    (ys_48 = stf (List.take v_1.snd.fst (List.drop (0 : Nat) v_1.snd.snd))) →
    (ys_48.length = n_49) →
    br (!{ data := (List.take n_49 (List.drop (0 : Nat) ys_48)).toArray : ByteArray }.data.toList == { data := b.toArray : ByteArray }.data.toList)
     ((k (AV.tup [AV.nilsl, AV.int IntKind.i64 (8 : Int)]) [] []))
     ((k (AV.tup [AV.row (0 : Nat) (0 : Nat) (0 : Nat) v_1.snd.fst, AV.int IntKind.i64 (0 : Int)]) [] [Blk.row (0 : Nat) v_1.snd.snd]))) := by
  refine ⟨?_, ?_⟩
  · -- left
    refine ⟨(Int.toNat (0 : Int), (0 : Nat), []), ?_⟩
    refine ⟨by first | with_reducible rfl | rfl, ?_⟩ -- b = b
    refine ⟨by first | with_reducible rfl | rfl, ?_⟩ -- (0 : Nat) = (0 : Nat)
    refine ⟨by first | with_reducible rfl | rfl, ?_⟩ -- (0 : Nat) = (0 : Nat)
    refine ⟨by show (0 : Int) = (↑(Int.toNat (0 : Int)) : Int); omega, ?_⟩ -- (0 : Int) = (↑(Int.toNat (0 : Int)) : Int)
    refine ⟨by first | with_reducible rfl | rfl, ?_⟩ -- [] = []
    refine ⟨by show Int.toNat (0 : Int) ≤ b.length; omega, ?_⟩ -- Int.toNat (0 : Int) ≤ b.length
    refine ⟨by rfl, ?_⟩ -- [] ++ rb (List.drop (Int.toNat (0 : Int)) b) = rb b
    refine ⟨by first | with_reducible rfl | rfl, ?_⟩ -- (0 : Nat) = (0 : Nat)
    refine ⟨by show (0 : Nat) ≤ Int.toNat (0 : Int); omega, ?_⟩ -- (0 : Nat) ≤ Int.toNat (0 : Int)
    exact by show b.length ≤ (1000000 : Nat); assumption -- b.length ≤ (1000000 : Nat)
  intro v_1
  intro h1 -- v_1.fst ≤ b.length ∧ v_1.snd.snd ++ rb (List.drop v_1.fst b) = rb b ∧ v_1.snd.snd.length = v_1.snd.fst ∧ v_1.snd.fst ≤ v_1.fst ∧ b.length ≤ (1000000 : Nat)
  intro n3
  intro q3 -- n3 = (↑b.length : Int)
  intro ⟨l3, u3⟩ -- (-9223372036854775808 : Int) ≤ n3 ∧ n3 ≤ (9223372036854775807 : Int)
  refine brd (fun c2 => ?_) (fun c2 => ?_) -- decide ((↑v_1.fst : Int) < n3)
  · -- yes
    refine ⟨by first | omega | (dsimp only; omega), ?_⟩ -- (0 : Int) ≤ (↑v_1.fst : Int)
    refine ⟨by first | omega | (dsimp only; omega), ?_⟩ -- (↑v_1.fst : Int) < (↑b.length : Int)
    intro n6
    intro q6 -- n6 = (↑(b.getD (↑v_1.fst : Int).toNat (0 : UInt8)).toNat : Int)
    intro ⟨l6, u6⟩ -- (0 : Int) ≤ n6 ∧ n6 ≤ (255 : Int)
    intro n9
    intro q9 -- n9 = IntKind.i64.wrap ((↑v_1.fst : Int) + (1 : Int))
    rw [IntKind.wrap_i64] at q9
    intro n11
    intro q11 -- n11 = (↑b.length : Int)
    intro n13
    intro q13 -- n13 = IntKind.i64.wrap ((↑v_1.fst : Int) + (1 : Int))
    rw [IntKind.wrap_i64] at q13
    refine ⟨?_, ?_⟩
    · -- left
      intro q13 -- (bif n6 == (125 : Int) then decide (n9 < n11) else false) = true
      simp at q13 -- n6 = (125 : Int) ∧ n9 < n11
      refine ⟨by first | omega | (dsimp only; omega), ?_⟩ -- (0 : Int) ≤ n13
      exact by omega -- n13 < (↑b.length : Int)
    intro n16
    intro q16 -- n16 = (↑(b.getD n13.toNat (0 : UInt8)).toNat : Int)
    intro n18
    intro q18 -- n18 = IntKind.i64.wrap ((↑v_1.fst : Int) + (1 : Int))
    rw [IntKind.wrap_i64] at q18
    refine ⟨?_, ?_⟩
    · -- left
      intro ⟨l18, u18⟩ -- (n16 == (93 : Int)) = false ∧ (bif n6 == (125 : Int) then decide (n9 < n11) else false) = true
      simp at l18 -- ¬n16 = (93 : Int)
      simp at u18 -- n6 = (125 : Int) ∧ n9 < n11
      refine ⟨by first | omega | (dsimp only; omega), ?_⟩ -- (0 : Int) ≤ n18
      exact by omega -- n18 < (↑b.length : Int)
    intro n21
    intro q21 -- n21 = (↑(b.getD n18.toNat (0 : UInt8)).toNat : Int)
    refine br_intro (fun c3 => ?_) (fun c3 => ?_) -- bif bif n6 == (125 : Int) then decide (n9 < n11) else false then bif n16 == (93 : Int) then true else n21 == (94 : Int) else false
    · -- yes
      simp at c3 -- (n6 = (125 : Int) ∧ n9 < n11) ∧ (n16 = (93 : Int) ∨ n21 = (94 : Int))
      intro n23
      intro q23 -- n23 = IntKind.i64.wrap ((↑v_1.fst : Int) + (1 : Int))
      rw [IntKind.wrap_i64] at q23
      intro ⟨l23, u23⟩ -- (-9223372036854775808 : Int) ≤ n23 ∧ n23 ≤ (9223372036854775807 : Int)
      refine ⟨by first | omega | (dsimp only; omega), ?_⟩ -- (0 : Int) ≤ n23
      refine ⟨by first | omega | (dsimp only; omega), ?_⟩ -- n23 < (↑b.length : Int)
      intro n26
      intro q26 -- n26 = (↑(b.getD n23.toNat (0 : UInt8)).toNat : Int)
      intro ⟨l26, u26⟩ -- (0 : Int) ≤ n26 ∧ n26 ≤ (255 : Int)
      intro n29
      intro q29 -- n29 = IntKind.u8.wrap (n26 + (32 : Int))
      rw [IntKind.wrap_u8] at q29
      intro ⟨l29, u29⟩ -- (0 : Int) ≤ n29 ∧ n29 ≤ (255 : Int)
      refine ⟨by first | omega | (dsimp only; omega), ?_⟩ -- (v_1.snd.fst + (1 : Nat)) * (1 : Nat) ≤ (140737488355328 : Nat)
      intro z32
      intro qz32 -- z32 = List.take v_1.snd.fst v_1.snd.snd ++ List.take (1 : Nat) (List.drop (0 : Nat) [UInt8.ofNat n29.toNat])
      intro n34
      intro q34 -- n34 = IntKind.i64.wrap ((↑v_1.fst : Int) + (1 : Int))
      rw [IntKind.wrap_i64] at q34
      intro ⟨l34, u34⟩ -- (-9223372036854775808 : Int) ≤ n34 ∧ n34 ≤ (9223372036854775807 : Int)
      intro n37
      intro q37 -- n37 = IntKind.i64.wrap (n34 + (1 : Int))
      rw [IntKind.wrap_i64] at q37
      intro ⟨l37, u37⟩ -- (-9223372036854775808 : Int) ≤ n37 ∧ n37 ≤ (9223372036854775807 : Int)
      refine ⟨(n37.toNat, v_1.snd.fst + (1 : Nat), z32), ?_⟩
      refine ⟨by first | with_reducible rfl | rfl, ?_⟩ -- b = b
      refine ⟨by first | with_reducible rfl | rfl, ?_⟩ -- (0 : Nat) = (0 : Nat)
      refine ⟨by first | with_reducible rfl | rfl, ?_⟩ -- v_1.snd.fst + (1 : Nat) = v_1.snd.fst + (1 : Nat)
      refine ⟨by show n37 = (↑n37.toNat : Int); omega, ?_⟩ -- n37 = (↑n37.toNat : Int)
      refine ⟨by first | with_reducible rfl | rfl, ?_⟩ -- z32 = z32
      refine ⟨?_, ?_⟩
      · -- left
        refine ⟨by show n37.toNat ≤ b.length; omega, ?_⟩ -- n37.toNat ≤ b.length
        have h4 : z32 ++ rb (List.drop n37.toNat b) = rb b := by
          have R := rb_step (b := b) (i := v_1.fst) (by omega)
          have e13 : n13.toNat = v_1.fst + 1 := by omega
          have e18 : n18.toNat = v_1.fst + 1 := by omega
          rw [e13] at q16
          rw [e18] at q21
          rw [Int.toNat_natCast] at q6
          have e23 : n23.toNat = v_1.fst + 1 := by omega
          rw [e23] at q26
          rw [if_pos ⟨byte_is (n := 125) (by decide) (by omega), by omega, by
            rcases c3.2 with c | c
            · exact .inl (byte_is (n := 93) (by decide) (by omega))
            · exact .inr (byte_is (n := 94) (by decide) (by omega))⟩] at R
          rw [← h1.2.1, R, show n37.toNat = v_1.fst + 2 by omega, qz32, add32 q26 q29, List.take_of_length_le (by omega)]
          exact List.append_assoc _ _ _
        refine ⟨h4, ?_⟩
        have h5 : z32.length = v_1.snd.fst + (1 : Nat) := by
          rw [qz32]; simp; omega
        refine ⟨h5, ?_⟩
        refine ⟨by show v_1.snd.fst + (1 : Nat) ≤ n37.toNat; omega, ?_⟩ -- v_1.snd.fst + (1 : Nat) ≤ n37.toNat
        exact by show b.length ≤ (1000000 : Nat); assumption -- b.length ≤ (1000000 : Nat)
      exact by show b.length - n37.toNat < b.length - v_1.fst; omega -- b.length - n37.toNat < b.length - v_1.fst
    · -- no
      simp at c3 -- n6 = (125 : Int) → n9 < n11 → ¬n16 = (93 : Int) ∧ ¬n21 = (94 : Int)
      refine ⟨by first | omega | (dsimp only; omega), ?_⟩ -- (0 : Int) ≤ (↑v_1.fst : Int)
      refine ⟨by first | omega | (dsimp only; omega), ?_⟩ -- (↑v_1.fst : Int) < (↑b.length : Int)
      intro n40
      intro q40 -- n40 = (↑(b.getD (↑v_1.fst : Int).toNat (0 : UInt8)).toNat : Int)
      intro ⟨l40, u40⟩ -- (0 : Int) ≤ n40 ∧ n40 ≤ (255 : Int)
      refine ⟨by first | omega | (dsimp only; omega), ?_⟩ -- (v_1.snd.fst + (1 : Nat)) * (1 : Nat) ≤ (140737488355328 : Nat)
      intro z43
      intro qz43 -- z43 = List.take v_1.snd.fst v_1.snd.snd ++ List.take (1 : Nat) (List.drop (0 : Nat) [UInt8.ofNat n40.toNat])
      intro n45
      intro q45 -- n45 = IntKind.i64.wrap ((↑v_1.fst : Int) + (1 : Int))
      rw [IntKind.wrap_i64] at q45
      intro ⟨l45, u45⟩ -- (-9223372036854775808 : Int) ≤ n45 ∧ n45 ≤ (9223372036854775807 : Int)
      refine ⟨(n45.toNat, v_1.snd.fst + (1 : Nat), z43), ?_⟩
      refine ⟨by first | with_reducible rfl | rfl, ?_⟩ -- b = b
      refine ⟨by first | with_reducible rfl | rfl, ?_⟩ -- (0 : Nat) = (0 : Nat)
      refine ⟨by first | with_reducible rfl | rfl, ?_⟩ -- v_1.snd.fst + (1 : Nat) = v_1.snd.fst + (1 : Nat)
      refine ⟨by show n45 = (↑n45.toNat : Int); omega, ?_⟩ -- n45 = (↑n45.toNat : Int)
      refine ⟨by first | with_reducible rfl | rfl, ?_⟩ -- z43 = z43
      refine ⟨?_, ?_⟩
      · -- left
        refine ⟨by show n45.toNat ≤ b.length; omega, ?_⟩ -- n45.toNat ≤ b.length
        have h6 : z43 ++ rb (List.drop n45.toNat b) = rb b := by
          have R := rb_step (b := b) (i := v_1.fst) (by omega)
          have e13 : n13.toNat = v_1.fst + 1 := by omega
          have e18 : n18.toNat = v_1.fst + 1 := by omega
          rw [e13] at q16
          rw [e18] at q21
          rw [Int.toNat_natCast] at q6
          rw [Int.toNat_natCast] at q40
          rw [if_neg fun d => by
            obtain ⟨d1, d2, d3⟩ := d
            have m1 : n6 = 125 := by rw [q6, d1]; rfl
            have m2 := c3 m1 (by omega)
            rcases d3 with d3 | d3
            · exact m2.1 (by rw [q16, d3]; rfl)
            · exact m2.2 (by rw [q21, d3]; rfl)] at R
          rw [← h1.2.1, R, show n45.toNat = v_1.fst + 1 by omega, qz43, q40, Int.toNat_natCast, UInt8.ofNat_toNat, List.take_of_length_le (by omega)]
          exact List.append_assoc _ _ _
        refine ⟨h6, ?_⟩
        have h7 : z43.length = v_1.snd.fst + (1 : Nat) := by
          rw [qz43]; simp; omega
        refine ⟨h7, ?_⟩
        refine ⟨by show v_1.snd.fst + (1 : Nat) ≤ n45.toNat; omega, ?_⟩ -- v_1.snd.fst + (1 : Nat) ≤ n45.toNat
        exact by show b.length ≤ (1000000 : Nat); assumption -- b.length ≤ (1000000 : Nat)
      exact by show b.length - n45.toNat < b.length - v_1.fst; omega -- b.length - n45.toNat < b.length - v_1.fst
  · -- no
    have h8 : (List.take v_1.snd.fst (List.drop (0 : Nat) v_1.snd.snd)).length ≤ (1000000 : Nat) := by
      rw [List.drop_zero, List.length_take]; omega
    refine ⟨h8, ?_⟩
    intro ys_48
    intro n_49
    intro h9 -- ys_48 = stf (List.take v_1.snd.fst (List.drop (0 : Nat) v_1.snd.snd))
    intro h10 -- ys_48.length = n_49
    refine br_intro (fun c11 => ?_) (fun c11 => ?_) -- !{ data := (List.take n_49 (List.drop (0 : Nat) ys_48)).toArray : ByteArray }.data.toList == { data := b.toArray : ByteArray }.data.toList
    · -- yes
      simp at c11 -- ¬List.take n_49 ys_48 = b
      -- k (AV.tup [AV.nilsl, AV.int IntKind.i64 (8 : Int)]) [] []
      have E : v_1.snd.snd = rb b := by
        have e := h1.2.1
        rw [List.drop_of_length_le (by omega)] at e
        rw [← e]; exact (List.append_nil _).symm
      have Y : List.take n_49 ys_48 = stf (rb b) := by
        rw [← h10, List.take_length, h9, List.drop_zero, List.take_of_length_le (by omega), E]
      rw [Y] at c11
      exact hk.1 (bare_rb.2 c11)
    · -- no
      simp at c11 -- List.take n_49 ys_48 = b
      -- k (AV.tup [AV.row (0 : Nat) (0 : Nat) (0 : Nat) v_1.snd.fst, AV.int IntKind.i64 (0 : Int)]) [] [Blk.row (0 : Nat) v_1.snd.snd]
      have E : v_1.snd.snd = rb b := by
        have e := h1.2.1
        rw [List.drop_of_length_le (by omega)] at e
        rw [← e]; exact (List.append_nil _).symm
      have Y : List.take n_49 ys_48 = stf (rb b) := by
        rw [← h10, List.take_length, h9, List.drop_zero, List.take_of_length_le (by omega), E]
      rw [Y] at c11
      exact hk.2 _ _ (by rw [E]; exact bare_rb.1 c11) (by omega)

theorem rbare_ok : Holds Try.prog 17 bareS := by
  refine fn_sound (env := mkEnv U3) (tab_ok U3_ok) Try.func17 Try.call17 fun args k h => ?_
  match args, h with
  | [.sl 0 b], h => exact ⟨by kernel_rfl, rbareLoops b, fun _ _ => none, .cast (by kernel_rfl) (rbare_vc b h.1 k h.2)⟩
theorem U4_ok : TabOk Try.prog U4 := ⟨rget_ok, inside_up rinside_ok, trivial⟩
set_option maxHeartbeats 2000000 in
theorem ropen_vc (b : List UInt8) (k : AV → List (Option Blk) → List Blk → Prop) (hk : (¬okO b → k (AV.tup [AV.agg [AV.int IntKind.u8 (0 : Int), AV.int IntKind.u32 (0 : Int), AV.nilsl], AV.int IntKind.i64 (8 : Int)]) [] []) ∧ (okO b → ∀ (kd sq : Int) (bo : List UInt8) (n : Nat), kd = oK b → sq = oS b → bo = oB b → bo.length = n → inK IntKind.u8 kd → inK IntKind.u32 sq → k (AV.tup [AV.agg [AV.int IntKind.u8 kd, AV.int IntKind.u32 sq, AV.row (0 : Nat) (0 : Nat) (0 : Nat) n], AV.int IntKind.i64 (0 : Int)]) [] [Blk.row (0 : Nat) bo])) :
  ∀ (n1 : Int),
  (n1 = (↑b.length : Int)) →
  ((-9223372036854775808 : Int) ≤ n1 ∧ n1 ≤ (9223372036854775807 : Int)) →
  ∀ (n4 : Int),
  (n4 = (↑b.length : Int)) →
  br (bif decide (n1 < (9 : Int)) then true else decide (n4 > (521 : Int)))
   ((k (AV.tup [AV.agg [AV.int IntKind.u8 (0 : Int), AV.int IntKind.u32 (0 : Int), AV.nilsl], AV.int IntKind.i64 (8 : Int)]) [] []))
   (((0 : Int) ≤ (1 : Int)) ∧
    ((1 : Int) ≤ (5 : Int)) ∧
    ((5 : Int) ≤ (↑b.length : Int)) ∧
    ∀ (a_6 : Int),
    ∀ (e_7 : Int),
    (a_6 = getV (List.drop (Int.toNat (1 : Int)) (List.take (Int.toNat (5 : Int)) b))) →
    (e_7 = getE (List.drop (Int.toNat (1 : Int)) (List.take (Int.toNat (5 : Int)) b))) →
    ((0 : Int) ≤ a_6 ∧ a_6 ≤ (18446744073709551615 : Int)) →
    (e_7 = (0 : Int) ∨ e_7 = (8 : Int)) →
    ((0 : Int) ≤ (0 : Int)) ∧
    ((0 : Int) < (↑b.length : Int)) ∧
    ∀ (n12 : Int),
    (n12 = (↑(b.getD (Int.toNat (0 : Int)) (0 : UInt8)).toNat : Int)) →
    ((0 : Int) ≤ n12 ∧ n12 ≤ (255 : Int)) →
    ∀ (n15 : Int),
    (n15 = IntKind.u32.wrap a_6) →
    ((0 : Int) ≤ n15 ∧ n15 ≤ (4294967295 : Int)) →
    ∀ (n18 : Int),
    (n18 = (↑b.length : Int)) →
    ((-9223372036854775808 : Int) ≤ n18 ∧ n18 ≤ (9223372036854775807 : Int)) →
    ∀ (n21 : Int),
    (n21 = IntKind.i64.wrap (n18 - (4 : Int))) →
    ((-9223372036854775808 : Int) ≤ n21 ∧ n21 ≤ (9223372036854775807 : Int)) →
    ((0 : Int) ≤ (5 : Int)) ∧
    ((5 : Int) ≤ n21) ∧
    (n21 ≤ (↑b.length : Int)) ∧
    ((List.drop (Int.toNat (5 : Int)) (List.take n21.toNat b)).length * (1 : Nat) ≤ (140737488355328 : Nat)) ∧
    ∀ (z24 : List UInt8),
    (z24 = List.drop (Int.toNat (5 : Int)) (List.take n21.toNat b)) →
    (
     ((0 : Int) ≤ n12) ∧
     (n12 ≤ (255 : Int))) ∧
    (
     ((0 : Int) ≤ n15) ∧
     (n15 ≤ (4294967295 : Int))) ∧
    ∀ (e_26 : Int),
    ∀ (ys_27 : List UInt8),
    ∀ (n_28 : Nat),
    (e_26 = iE (List.take (List.drop (Int.toNat (5 : Int)) (List.take n21.toNat b)).length (List.drop (0 : Nat) z24))) →
    (ys_27 = iO n12 n15 (List.take (List.drop (Int.toNat (5 : Int)) (List.take n21.toNat b)).length (List.drop (0 : Nat) z24))) →
    (ys_27.length = n_28) →
    br (!{ data := (List.take n_28 (List.drop (0 : Nat) ys_27)).toArray : ByteArray }.data.toList == { data := b.toArray : ByteArray }.data.toList)
     ((k (AV.tup [AV.agg [AV.int IntKind.u8 (0 : Int), AV.int IntKind.u32 (0 : Int), AV.nilsl], AV.int IntKind.i64 (8 : Int)]) [] []))
     ((k (AV.tup [AV.agg [AV.int IntKind.u8 n12, AV.int IntKind.u32 n15, AV.row (0 : Nat) (0 : Nat) (0 : Nat) (List.drop (Int.toNat (5 : Int)) (List.take n21.toNat b)).length], AV.int IntKind.i64 (0 : Int)]) [] [Blk.row (0 : Nat) z24]))) := by
  intro n1
  intro q1 -- n1 = (↑b.length : Int)
  intro ⟨l1, u1⟩ -- (-9223372036854775808 : Int) ≤ n1 ∧ n1 ≤ (9223372036854775807 : Int)
  intro n4
  intro q4 -- n4 = (↑b.length : Int)
  refine br_intro (fun c1 => ?_) (fun c1 => ?_) -- bif decide (n1 < (9 : Int)) then true else decide (n4 > (521 : Int))
  · -- yes
    simp at c1 -- n1 < (9 : Int) ∨ (521 : Int) < n4
    -- k (AV.tup [AV.agg [AV.int IntKind.u8 (0 : Int), AV.int IntKind.u32 (0 : Int), AV.nilsl], AV.int IntKind.i64 (8 : Int)]) [] []
    exact hk.1 fun o => by have := o.1; have := o.2.1; omega
  · -- no
    simp at c1 -- (9 : Int) ≤ n1 ∧ n4 ≤ (521 : Int)
    refine ⟨by first | omega | (dsimp only; omega), ?_⟩ -- (0 : Int) ≤ (1 : Int)
    refine ⟨by first | omega | (dsimp only; omega), ?_⟩ -- (1 : Int) ≤ (5 : Int)
    refine ⟨by first | omega | (dsimp only; omega), ?_⟩ -- (5 : Int) ≤ (↑b.length : Int)
    intro a_6
    intro e_7
    intro h2 -- a_6 = getV (List.drop (Int.toNat (1 : Int)) (List.take (Int.toNat (5 : Int)) b))
    intro h3 -- e_7 = getE (List.drop (Int.toNat (1 : Int)) (List.take (Int.toNat (5 : Int)) b))
    intro ⟨a4, b4⟩ -- (0 : Int) ≤ a_6 ∧ a_6 ≤ (18446744073709551615 : Int)
    intro h5 -- e_7 = (0 : Int) ∨ e_7 = (8 : Int)
    refine ⟨by first | omega | (dsimp only; omega), ?_⟩ -- (0 : Int) ≤ (0 : Int)
    refine ⟨by first | omega | (dsimp only; omega), ?_⟩ -- (0 : Int) < (↑b.length : Int)
    intro n12
    intro q12 -- n12 = (↑(b.getD (Int.toNat (0 : Int)) (0 : UInt8)).toNat : Int)
    intro ⟨l12, u12⟩ -- (0 : Int) ≤ n12 ∧ n12 ≤ (255 : Int)
    intro n15
    intro q15 -- n15 = IntKind.u32.wrap a_6
    rw [IntKind.wrap_u32] at q15
    intro ⟨l15, u15⟩ -- (0 : Int) ≤ n15 ∧ n15 ≤ (4294967295 : Int)
    intro n18
    intro q18 -- n18 = (↑b.length : Int)
    intro ⟨l18, u18⟩ -- (-9223372036854775808 : Int) ≤ n18 ∧ n18 ≤ (9223372036854775807 : Int)
    intro n21
    intro q21 -- n21 = IntKind.i64.wrap (n18 - (4 : Int))
    rw [IntKind.wrap_i64] at q21
    intro ⟨l21, u21⟩ -- (-9223372036854775808 : Int) ≤ n21 ∧ n21 ≤ (9223372036854775807 : Int)
    refine ⟨by first | omega | (dsimp only; omega), ?_⟩ -- (0 : Int) ≤ (5 : Int)
    refine ⟨by first | omega | (dsimp only; omega), ?_⟩ -- (5 : Int) ≤ n21
    refine ⟨by first | omega | (dsimp only; omega), ?_⟩ -- n21 ≤ (↑b.length : Int)
    have h6 : (List.drop (Int.toNat (5 : Int)) (List.take n21.toNat b)).length * (1 : Nat) ≤ (140737488355328 : Nat) := by
      simp; omega
    refine ⟨h6, ?_⟩
    intro z24
    intro qz24 -- z24 = List.drop (Int.toNat (5 : Int)) (List.take n21.toNat b)
    refine ⟨by exact ⟨by assumption, by assumption⟩, ?_⟩ -- (0 : Int) ≤ n12 ∧ n12 ≤ (255 : Int)
    refine ⟨by exact ⟨by assumption, by assumption⟩, ?_⟩ -- (0 : Int) ≤ n15 ∧ n15 ≤ (4294967295 : Int)
    intro e_26
    intro ys_27
    intro n_28
    intro h7 -- e_26 = iE (List.take (List.drop (Int.toNat (5 : Int)) (List.take n21.toNat b)).length (List.drop (0 : Nat) z24))
    intro h8 -- ys_27 = iO n12 n15 (List.take (List.drop (Int.toNat (5 : Int)) (List.take n21.toNat b)).length (List.drop (0 : Nat) z24))
    intro h9 -- ys_27.length = n_28
    refine br_intro (fun c10 => ?_) (fun c10 => ?_) -- !{ data := (List.take n_28 (List.drop (0 : Nat) ys_27)).toArray : ByteArray }.data.toList == { data := b.toArray : ByteArray }.data.toList
    · -- yes
      simp at c10 -- ¬List.take n_28 ys_27 = b
      -- k (AV.tup [AV.agg [AV.int IntKind.u8 (0 : Int), AV.int IntKind.u32 (0 : Int), AV.nilsl], AV.int IntKind.i64 (8 : Int)]) [] []
      have e4 : n21.toNat = b.length - 4 := by omega
      have l4 : (List.drop (Int.toNat 1) (List.take (Int.toNat 5) b)).length = 4 := by
        rw [List.length_drop, List.length_take]
        show min 5 b.length - 1 = 4
        omega
      have g7 := getL_lt (List.drop (Int.toNat 1) (List.take (Int.toNat 5) b))
      rw [l4] at g7
      have g7 : getL (List.drop (Int.toNat 1) (List.take (Int.toNat 5) b)) < 4294967296 := g7
      have a8 : a_6 = (getL (List.drop (Int.toNat 1) (List.take (Int.toNat 5) b)) : Int) := by rw [h2]; unfold getV; exact getV4 l4
      have K : n12 = oK b := q12
      have S : n15 = oS b := by
        have e : oS b = (getL (List.drop (Int.toNat 1) (List.take (Int.toNat 5) b)) : Int) := by
          unfold oS
          rw [show List.drop (Int.toNat 1) (List.take (Int.toNat 5) b) = List.take 4 (List.drop 1 b) from List.drop_take (i := 1) (j := 5) (l := b)]
        omega
      have B : z24 = oB b := by rw [qz24, e4]; rfl
      have B2 : List.take (List.drop (Int.toNat 5) (List.take n21.toNat b)).length (List.drop 0 z24) = oB b := by rw [← qz24, List.drop_zero, List.take_length, B]
      have lB : (oB b).length ≤ 512 := by
        rw [← B, qz24, e4, List.length_drop, List.length_take]
        show min (b.length - 4) b.length - 5 ≤ 512
        omega
      have Y : List.take n_28 ys_27 = ins (oK b) (oS b) (oB b) := by
        rw [← h9, List.take_length, h8, B2, K, S]
        unfold iO
        rw [if_neg (by omega)]
      rw [Y] at c10
      exact hk.1 fun o => c10 (of_ok o).1
    · -- no
      simp at c10 -- List.take n_28 ys_27 = b
      -- k (AV.tup [AV.agg [AV.int IntKind.u8 n12, AV.int IntKind.u32 n15, AV.row (0 : Nat) (0 : Nat) (0 : Nat) (List.drop (Int.toNat (5 : Int)) (List.take n21.toNat b)).length], AV.int IntKind.i64 (0 : Int)]) [] [Blk.row (0 : Nat) z24]
      have e4 : n21.toNat = b.length - 4 := by omega
      have l4 : (List.drop (Int.toNat 1) (List.take (Int.toNat 5) b)).length = 4 := by
        rw [List.length_drop, List.length_take]
        show min 5 b.length - 1 = 4
        omega
      have g7 := getL_lt (List.drop (Int.toNat 1) (List.take (Int.toNat 5) b))
      rw [l4] at g7
      have g7 : getL (List.drop (Int.toNat 1) (List.take (Int.toNat 5) b)) < 4294967296 := g7
      have a8 : a_6 = (getL (List.drop (Int.toNat 1) (List.take (Int.toNat 5) b)) : Int) := by rw [h2]; unfold getV; exact getV4 l4
      have K : n12 = oK b := q12
      have S : n15 = oS b := by
        have e : oS b = (getL (List.drop (Int.toNat 1) (List.take (Int.toNat 5) b)) : Int) := by
          unfold oS
          rw [show List.drop (Int.toNat 1) (List.take (Int.toNat 5) b) = List.take 4 (List.drop 1 b) from List.drop_take (i := 1) (j := 5) (l := b)]
        omega
      have B : z24 = oB b := by rw [qz24, e4]; rfl
      have B2 : List.take (List.drop (Int.toNat 5) (List.take n21.toNat b)).length (List.drop 0 z24) = oB b := by rw [← qz24, List.drop_zero, List.take_length, B]
      have lB : (oB b).length ≤ 512 := by
        rw [← B, qz24, e4, List.length_drop, List.length_take]
        show min (b.length - 4) b.length - 5 ≤ 512
        omega
      have Y : List.take n_28 ys_27 = ins (oK b) (oS b) (oB b) := by
        rw [← h9, List.take_length, h8, B2, K, S]
        unfold iO
        rw [if_neg (by omega)]
      rw [Y] at c10
      exact hk.2 (by rw [← c10]; exact ins_ok _ _ lB) _ _ _ _ K S B (by rw [qz24]) ⟨by omega, by omega⟩ ⟨by omega, by omega⟩

theorem ropen_ok : Holds Try.prog 15 openS := by
  refine fn_sound (env := mkEnv U4) (tab_ok U4_ok) Try.func15 Try.call15 fun args k h => ?_
  match args, h with
  | [.sl 0 b], h => exact ⟨by kernel_rfl, fun _ _ => none, fun _ _ => none, .cast (by kernel_rfl) (ropen_vc b k h)⟩
set_option maxHeartbeats 2000000 in
theorem rwrite_vc (kd : Int) (kd0 : (0 : Int) ≤ kd) (kd1 : kd ≤ (255 : Int)) (sq : Int) (sq0 : (0 : Int) ≤ sq) (sq1 : sq ≤ (4294967295 : Int)) (bo : List UInt8) (k : AV → List (Option Blk) → List Blk → Prop) (hk : ((512 : Nat) < bo.length → k (AV.tup [AV.nilsl, AV.int IntKind.i64 (3 : Int)]) [] []) ∧ (bo.length ≤ (512 : Nat) → ∀ (ys : List UInt8) (n : Nat), ys = wr kd sq bo → ys.length = n → k (AV.tup [AV.row (0 : Nat) (0 : Nat) (0 : Nat) n, AV.int IntKind.i64 (0 : Int)]) [] [Blk.row (0 : Nat) ys])) :
  (
   ((0 : Int) ≤ kd) ∧
   (kd ≤ (255 : Int))) ∧
  (
   ((0 : Int) ≤ sq) ∧
   (sq ≤ (4294967295 : Int))) ∧
  (
   ((512 : Nat) < bo.length) →
   (k (AV.tup [AV.nilsl, AV.int IntKind.i64 (3 : Int)]) [] [])) ∧
  ((bo.length ≤ (512 : Nat)) →
  ∀ (ys_1 : List UInt8),
  ∀ (n_2 : Nat),
  (ys_1 = ins kd sq bo) →
  (ys_1.length = n_2) →
  ((List.take n_2 (List.drop (0 : Nat) ys_1)).length ≤ (1000000 : Nat)) ∧
  ∀ (ys_5 : List UInt8),
  ∀ (n_6 : Nat),
  (ys_5 = stf (List.take n_2 (List.drop (0 : Nat) ys_1))) →
  (ys_5.length = n_6) →
  (((1 : Nat) + n_6) * (1 : Nat) ≤ (140737488355328 : Nat)) ∧
  ∀ (z9 : List UInt8),
  (z9 = List.take (1 : Nat) [UInt8.ofNat (Int.toNat (126 : Int))] ++ List.take n_6 (List.drop (0 : Nat) ys_5)) →
  (((1 : Nat) + n_6 + (1 : Nat)) * (1 : Nat) ≤ (140737488355328 : Nat)) ∧
  ∀ (z11 : List UInt8),
  (z11 = List.take ((1 : Nat) + n_6) z9 ++ List.take (1 : Nat) (List.drop (0 : Nat) [UInt8.ofNat (Int.toNat (126 : Int))])) →
  (k (AV.tup [AV.row (0 : Nat) (0 : Nat) (0 : Nat) ((1 : Nat) + n_6 + (1 : Nat)), AV.int IntKind.i64 (0 : Int)]) [] [Blk.row (0 : Nat) z11])) := by
  refine ⟨by exact ⟨by assumption, by assumption⟩, ?_⟩ -- (0 : Int) ≤ kd ∧ kd ≤ (255 : Int)
  refine ⟨by exact ⟨by assumption, by assumption⟩, ?_⟩ -- (0 : Int) ≤ sq ∧ sq ≤ (4294967295 : Int)
  refine ⟨?_, ?_⟩
  · -- left
    intro h1 -- (512 : Nat) < bo.length
    -- k (AV.tup [AV.nilsl, AV.int IntKind.i64 (3 : Int)]) [] []
    exact hk.1 h1
  intro h2 -- bo.length ≤ (512 : Nat)
  intro ys_1
  intro n_2
  intro h3 -- ys_1 = ins kd sq bo
  intro h4 -- ys_1.length = n_2
  have h5 : (List.take n_2 (List.drop (0 : Nat) ys_1)).length ≤ (1000000 : Nat) := by
    have Y : List.take n_2 (List.drop 0 ys_1) = ins kd sq bo := by rw [List.drop_zero, ← h4, List.take_length, h3]
    rw [Y, ins_len]; omega
  refine ⟨h5, ?_⟩
  intro ys_5
  intro n_6
  intro h6 -- ys_5 = stf (List.take n_2 (List.drop (0 : Nat) ys_1))
  intro h7 -- ys_5.length = n_6
  have h8 : ((1 : Nat) + n_6) * (1 : Nat) ≤ (140737488355328 : Nat) := by
    have Y : List.take n_2 (List.drop 0 ys_1) = ins kd sq bo := by rw [List.drop_zero, ← h4, List.take_length, h3]
    have l6 := stf_len (ins kd sq bo)
    have li := ins_len kd sq bo
    have e6 : n_6 = (stf (ins kd sq bo)).length := by rw [← h7, h6, Y]
    omega
  refine ⟨h8, ?_⟩
  intro z9
  intro qz9 -- z9 = List.take (1 : Nat) [UInt8.ofNat (Int.toNat (126 : Int))] ++ List.take n_6 (List.drop (0 : Nat) ys_5)
  have h9 : ((1 : Nat) + n_6 + (1 : Nat)) * (1 : Nat) ≤ (140737488355328 : Nat) := by
    have Y : List.take n_2 (List.drop 0 ys_1) = ins kd sq bo := by rw [List.drop_zero, ← h4, List.take_length, h3]
    have l6 := stf_len (ins kd sq bo)
    have li := ins_len kd sq bo
    have e6 : n_6 = (stf (ins kd sq bo)).length := by rw [← h7, h6, Y]
    omega
  refine ⟨h9, ?_⟩
  intro z11
  intro qz11 -- z11 = List.take ((1 : Nat) + n_6) z9 ++ List.take (1 : Nat) (List.drop (0 : Nat) [UInt8.ofNat (Int.toNat (126 : Int))])
  -- k (AV.tup [AV.row (0 : Nat) (0 : Nat) (0 : Nat) ((1 : Nat) + n_6 + (1 : Nat)), AV.int IntKind.i64 (0 : Int)]) [] [Blk.row (0 : Nat) z11]
  have Y : List.take n_2 (List.drop 0 ys_1) = ins kd sq bo := by rw [List.drop_zero, ← h4, List.take_length, h3]
  have l6 := stf_len (ins kd sq bo)
  have li := ins_len kd sq bo
  have e6 : n_6 = (stf (ins kd sq bo)).length := by rw [← h7, h6, Y]
  have Z : z11 = wr kd sq bo := by
    rw [qz11, qz9, h6, Y, e6, List.drop_zero, List.take_length, List.take_of_length_le (by simp; omega)]
    rfl
  exact hk.2 h2 _ _ Z (by rw [Z, e6]; unfold wr; simp; omega)

theorem rwrite_ok : Holds Try.prog 13 writeS := by
  refine fn_sound (env := mkEnv U3) (tab_ok U3_ok) Try.func13 Try.call13 fun args k h => ?_
  match args, h with
  | [.agg [.int .u8 kd, .int .u32 sq, .sl 0 bo]], h => exact ⟨by kernel_rfl, fun _ _ => none, fun _ _ => none, .cast (by kernel_rfl) (rwrite_vc kd h.1.1 h.1.2 sq h.2.1.1 h.2.1.2 bo k h.2.2)⟩
set_option maxHeartbeats 2000000 in
theorem rmsame_vc (k1 : Int) (k10 : (0 : Int) ≤ k1) (k11 : k1 ≤ (255 : Int)) (s1 : Int) (s10 : (0 : Int) ≤ s1) (s11 : s1 ≤ (4294967295 : Int)) (a : List UInt8) (k2 : Int) (k20 : (0 : Int) ≤ k2) (k21 : k2 ≤ (255 : Int)) (s2 : Int) (s20 : (0 : Int) ≤ s2) (s21 : s2 ≤ (4294967295 : Int)) (b : List UInt8) (k : AV → List (Option Blk) → List Blk → Prop) (hk : ∀ (r : Bool), (r = true ↔ k1 = k2 ∧ s1 = s2 ∧ a = b) → k (AV.bool r) [] []) :
  ∀ (n1 : Int),
  (n1 = k1) →
  ((0 : Int) ≤ n1 ∧ n1 ≤ (255 : Int)) →
  ∀ (n4 : Int),
  (n4 = k2) →
  ((0 : Int) ≤ n4 ∧ n4 ≤ (255 : Int)) →
  ∀ (n7 : Int),
  (n7 = s1) →
  ∀ (n9 : Int),
  (n9 = s2) →
  (k (AV.bool (bif bif n1 == n4 then n7 == n9 else false then { data := a.toArray : ByteArray }.data.toList == { data := b.toArray : ByteArray }.data.toList else false)) [] []) := by
  intro n1
  intro q1 -- n1 = k1
  intro ⟨l1, u1⟩ -- (0 : Int) ≤ n1 ∧ n1 ≤ (255 : Int)
  intro n4
  intro q4 -- n4 = k2
  intro ⟨l4, u4⟩ -- (0 : Int) ≤ n4 ∧ n4 ≤ (255 : Int)
  intro n7
  intro q7 -- n7 = s1
  intro n9
  intro q9 -- n9 = s2
  -- k (AV.bool (bif bif n1 == n4 then n7 == n9 else false then { data := a.toArray : ByteArray }.data.toList == { data := b.toArray : ByteArray }.data.toList else false)) [] []
  subst q1 q4 q7 q9
  exact hk _ (by simp [and_assoc])

theorem rmsame_ok : Holds Try.prog 19 msgSameS := by
  refine fn_sound (env := mkEnv T0) (tab_ok T0_ok) Try.func19 Try.call19 fun args k h => ?_
  match args, h with
  | [.agg [.int .u8 k1, .int .u32 s1, .sl 0 a], .agg [.int .u8 k2, .int .u32 s2, .sl 0 b]], h => exact ⟨by kernel_rfl, fun _ _ => none, fun _ _ => none, .cast (by kernel_rfl) (rmsame_vc k1 h.1.1 h.1.2 s1 h.2.1.1 h.2.1.2 a k2 h.2.2.1.1 h.2.2.1.2 s2 h.2.2.2.1.1 h.2.2.2.1.2 b k h.2.2.2.2)⟩
end Go.Proofs.Ytilbglkpbjamfaa

