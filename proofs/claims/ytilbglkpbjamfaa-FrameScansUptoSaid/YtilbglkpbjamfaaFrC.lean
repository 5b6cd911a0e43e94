import Derived.Test.YtilbglkpbjamfaaFrB
namespace Go.Proofs.Ytilbglkpbjamfaa
open Go Go.Eng Go.Rw Go.Fr Go.Proofs
set_option linter.unusedVariables false
set_option maxHeartbeats 2000000 in
theorem clone_vc (xs : List UInt8) (hx : xs.length ≤ (1000000 : Nat)) (k : AV → List (Option Blk) → List Blk → Prop) (hk : (xs = [] → k AV.nilsl [] []) ∧ k (AV.row (0 : Nat) (0 : Nat) (0 : Nat) xs.length) [] [Blk.row (0 : Nat) xs]) :
  ∀ (b_1 : Bool),
  ((b_1 = true) →
   (xs = [])) →
  br (b_1)
   ((k AV.nilsl [] []))
   ((((0 : Nat) + xs.length) * (1 : Nat) ≤ (140737488355328 : Nat)) ∧
    ∀ (z3 : List UInt8),
    (z3 = List.take (0 : Nat) [] ++ xs) →
    (k (AV.row (0 : Nat) (0 : Nat) (0 : Nat) ((0 : Nat) + xs.length)) [] [Blk.row (0 : Nat) z3])) := by
  intro b_1
  intro h1 -- b_1 = true → xs = []
  refine br_intro (fun c2 => ?_) (fun c2 => ?_) -- b_1
  · -- yes
    -- k AV.nilsl [] []
    exact hk.1 (h1 c2)
  · -- no
    refine ⟨by first | omega | (dsimp only; omega), ?_⟩ -- ((0 : Nat) + xs.length) * (1 : Nat) ≤ (140737488355328 : Nat)
    intro z3
    intro qz3 -- z3 = List.take (0 : Nat) [] ++ xs
    -- k (AV.row (0 : Nat) (0 : Nat) (0 : Nat) ((0 : Nat) + xs.length)) [] [Blk.row (0 : Nat) z3]
    rw [qz3, Nat.zero_add]; exact hk.2

theorem clone_ok : Holds Try.prog 35 clone0S := by
  refine fn_sound (env := mkEnv T0) (tab_ok T0_ok) Try.func35 Try.call35 fun args k h => ?_
  match args, h with
  | [.sl 0 xs], h => exact ⟨by kernel_rfl, fun _ _ => none, fun _ _ => none, .cast (by kernel_rfl) (clone_vc xs h.1 k h.2)⟩
theorem cloneR_ok : Holds Try.prog 35 cloneS := clone_ok.nl 0 rfl rfl rfl fun args k h => by
  unfold cloneS at h
  dsimp only at h
  split at h
  · exact ⟨h.1, fun e => by subst e; exact h.2, h.2⟩
  · exact h.elim
set_option maxHeartbeats 2000000 in
theorem put_vc (n : Int) (n0 : (0 : Int) ≤ n) (n1 : n ≤ (18446744073709551615 : Int)) (w : Int) (w0 : (-9223372036854775808 : Int) ≤ w) (w1 : w ≤ (9223372036854775807 : Int)) (k : AV → List (Option Blk) → List Blk → Prop) (hk : (putOk n w = true → ∀ (ys : List UInt8) (q : Nat), ys = putL n.toNat w.toNat → (↑q : Int) = w → k (AV.tup [AV.row (0 : Nat) (0 : Nat) (0 : Nat) q, AV.int IntKind.i64 (0 : Int)]) [] [Blk.row (0 : Nat) ys]) ∧ (putOk n w = false → k (AV.tup [AV.nilsl, AV.int IntKind.i64 (2 : Int)]) [] [])) :
  ∀ (n1 : Int),
  (n1 = IntKind.i64.wrap ((8 : Int) * w)) →
  (
   (decide (w < (8 : Int)) = true ∧ (bif decide (w < (1 : Int)) then true else decide (w > (8 : Int))) = false) →
   ((0 : Int) ≤ n1)) ∧
  ∀ (n4 : Int),
  (n4 = n.fdiv ((2 : Int) ^ min n1.toNat IntKind.u64.bits)) →
  br (bif bif decide (w < (1 : Int)) then true else decide (w > (8 : Int)) then true else bif decide (w < (8 : Int)) then n4 != (0 : Int) else false)
   ((k (AV.tup [AV.nilsl, AV.int IntKind.i64 (2 : Int)]) [] []))
   ((
     ((0 : Int) ≤ w) ∧
     (w ≤ w) ∧
     (w * (↑(1 : Nat) : Int) ≤ (140737488355328 : Int))) ∧
    ∀ (n6 : Int),
    (n6 = (↑w.toNat : Int)) →
    ((-9223372036854775808 : Int) ≤ n6 ∧ n6 ≤ (9223372036854775807 : Int)) →
    (
     ∃ (v : Nat × List UInt8),
     (n = n) ∧
     ((0 : Nat) = (0 : Nat)) ∧
     (w.toNat = w.toNat) ∧
     (n6 = w) ∧
     ((0 : Int) = (↑v.fst : Int)) ∧
     (List.replicate w.toNat (UInt8.ofNat (Int.toNat (0 : Int))) = v.snd) ∧
     (v.fst ≤ w.toNat) ∧
     (v.snd = putL n.toNat v.fst ++ List.replicate (w.toNat - v.fst) (0 : UInt8)) ∧
     (v.snd.length = w.toNat)) ∧
    ∀ (v_9 : Nat × List UInt8),
    (v_9.fst ≤ w.toNat ∧ v_9.snd = putL n.toNat v_9.fst ++ List.replicate (w.toNat - v_9.fst) (0 : UInt8) ∧ v_9.snd.length = w.toNat) →
    br (decide ((↑v_9.fst : Int) < w))
     (∀ (n11 : Int),
      (n11 = IntKind.i64.wrap ((8 : Int) * (↑v_9.fst : Int))) →
      ((-9223372036854775808 : Int) ≤ n11 ∧ n11 ≤ (9223372036854775807 : Int)) →
      ((0 : Int) ≤ n11) ∧
      ∀ (n14 : Int),
      (n14 = n.fdiv ((2 : Int) ^ min n11.toNat IntKind.u64.bits)) →
      ((0 : Int) ≤ n14 ∧ n14 ≤ (18446744073709551615 : Int)) →
      ∀ (n17 : Int),
      (n17 = IntKind.u8.wrap n14) →
      ((0 : Int) ≤ n17 ∧ n17 ≤ (255 : Int)) →
      ((0 : Int) ≤ (↑v_9.fst : Int)) ∧
      ((↑v_9.fst : Int) < (↑w.toNat : Int)) ∧
      ((0 : Nat) + (↑v_9.fst : Int).toNat < v_9.snd.length) ∧
      ∀ (z20 : List UInt8),
      (z20 = v_9.snd.set ((0 : Nat) + (↑v_9.fst : Int).toNat) (UInt8.ofNat n17.toNat)) →
      ∀ (n22 : Int),
      (n22 = IntKind.i64.wrap ((↑v_9.fst : Int) + (1 : Int))) →
      ((-9223372036854775808 : Int) ≤ n22 ∧ n22 ≤ (9223372036854775807 : Int)) →
      ∃ (v' : Nat × List UInt8),
      (n = n) ∧
      ((0 : Nat) = (0 : Nat)) ∧
      (w.toNat = w.toNat) ∧
      (w = w) ∧
      (n22 = (↑v'.fst : Int)) ∧
      (z20 = v'.snd) ∧
      (
       (v'.fst ≤ w.toNat) ∧
       (v'.snd = putL n.toNat v'.fst ++ List.replicate (w.toNat - v'.fst) (0 : UInt8)) ∧
       (v'.snd.length = w.toNat)) ∧
      (w.toNat - v'.fst < w.toNat - v_9.fst))
     ((k (AV.tup [AV.row (0 : Nat) (0 : Nat) (0 : Nat) w.toNat, AV.int IntKind.i64 (0 : Int)]) [] [Blk.row (0 : Nat) v_9.snd]))) := by
  intro n1
  intro q1 -- n1 = IntKind.i64.wrap ((8 : Int) * w)
  rw [IntKind.wrap_i64] at q1
  refine ⟨?_, ?_⟩
  · -- left
    intro ⟨l1, u1⟩ -- decide (w < (8 : Int)) = true ∧ (bif decide (w < (1 : Int)) then true else decide (w > (8 : Int))) = false
    simp at l1 -- w < (8 : Int)
    simp at u1 -- (1 : Int) ≤ w ∧ w ≤ (8 : Int)
    exact by omega -- (0 : Int) ≤ n1
  intro n4
  intro q4 -- n4 = n.fdiv ((2 : Int) ^ min n1.toNat IntKind.u64.bits)
  refine br_intro (fun c1 => ?_) (fun c1 => ?_) -- bif bif decide (w < (1 : Int)) then true else decide (w > (8 : Int)) then true else bif decide (w < (8 : Int)) then n4 != (0 : Int) else false
  · -- yes
    simp at c1 -- (w < (1 : Int) ∨ (8 : Int) < w) ∨ w < (8 : Int) ∧ ¬n4 = (0 : Int)
    -- k (AV.tup [AV.nilsl, AV.int IntKind.i64 (2 : Int)]) [] []
    refine hk.2 ?_
    rw [← Bool.not_eq_true]
    intro hc
    unfold putOk at hc
    simp only [decide_eq_true_eq] at hc
    obtain ⟨w1, w2, w3⟩ := hc
    rcases c1 with c1 | c1
    · omega
    · obtain ⟨c2, c3⟩ := c1
      apply c3
      rw [q4, shr8 n n1 w.toNat n0 (by omega) (by omega), Nat.div_eq_of_lt w3]
      rfl
  · -- no
    simp at c1 -- ((1 : Int) ≤ w ∧ w ≤ (8 : Int)) ∧ (w < (8 : Int) → n4 = (0 : Int))
    refine ⟨?_, ?_⟩
    · -- left
      refine ⟨by first | omega | (dsimp only; omega), ?_⟩ -- (0 : Int) ≤ w
      refine ⟨by first | omega | (dsimp only; omega), ?_⟩ -- w ≤ w
      exact by omega -- w * (↑(1 : Nat) : Int) ≤ (140737488355328 : Int)
    intro n6
    intro q6 -- n6 = (↑w.toNat : Int)
    intro ⟨l6, u6⟩ -- (-9223372036854775808 : Int) ≤ n6 ∧ n6 ≤ (9223372036854775807 : Int)
    refine ⟨?_, ?_⟩
    · -- left
      refine ⟨(Int.toNat (0 : Int), List.replicate w.toNat (UInt8.ofNat (Int.toNat (0 : Int)))), ?_⟩
      refine ⟨by first | with_reducible rfl | rfl, ?_⟩ -- n = n
      refine ⟨by first | with_reducible rfl | rfl, ?_⟩ -- (0 : Nat) = (0 : Nat)
      refine ⟨by first | with_reducible rfl | rfl, ?_⟩ -- w.toNat = w.toNat
      refine ⟨by show n6 = w; omega, ?_⟩ -- n6 = w
      refine ⟨by show (0 : Int) = (↑(Int.toNat (0 : Int)) : Int); omega, ?_⟩ -- (0 : Int) = (↑(Int.toNat (0 : Int)) : Int)
      refine ⟨by first | with_reducible rfl | rfl, ?_⟩ -- List.replicate w.toNat (UInt8.ofNat (Int.toNat (0 : Int))) = List.replicate w.toNat (UInt8.ofNat (Int.toNat (0 : Int)))
      refine ⟨by show Int.toNat (0 : Int) ≤ w.toNat; omega, ?_⟩ -- Int.toNat (0 : Int) ≤ w.toNat
      refine ⟨by rfl, ?_⟩ -- List.replicate w.toNat (UInt8.ofNat (Int.toNat (0 : Int))) = putL n.toNat (Int.toNat (0 : Int)) ++ List.replicate (w.toNat - Int.toNat (0 : Int)) (0 : UInt8)
      -- (List.replicate w.toNat (UInt8.ofNat (Int.toNat (0 : Int)))).length = w.toNat
      simp
    intro v_9
    intro h2 -- v_9.fst ≤ w.toNat ∧ v_9.snd = putL n.toNat v_9.fst ++ List.replicate (w.toNat - v_9.fst) (0 : UInt8) ∧ v_9.snd.length = w.toNat
    refine brd (fun c3 => ?_) (fun c3 => ?_) -- decide ((↑v_9.fst : Int) < w)
    · -- yes
      intro n11
      intro q11 -- n11 = IntKind.i64.wrap ((8 : Int) * (↑v_9.fst : Int))
      rw [IntKind.wrap_i64] at q11
      intro ⟨l11, u11⟩ -- (-9223372036854775808 : Int) ≤ n11 ∧ n11 ≤ (9223372036854775807 : Int)
      refine ⟨by first | omega | (dsimp only; omega), ?_⟩ -- (0 : Int) ≤ n11
      intro n14
      intro q14 -- n14 = n.fdiv ((2 : Int) ^ min n11.toNat IntKind.u64.bits)
      intro ⟨l14, u14⟩ -- (0 : Int) ≤ n14 ∧ n14 ≤ (18446744073709551615 : Int)
      intro n17
      intro q17 -- n17 = IntKind.u8.wrap n14
      rw [IntKind.wrap_u8] at q17
      intro ⟨l17, u17⟩ -- (0 : Int) ≤ n17 ∧ n17 ≤ (255 : Int)
      refine ⟨by first | omega | (dsimp only; omega), ?_⟩ -- (0 : Int) ≤ (↑v_9.fst : Int)
      refine ⟨by first | omega | (dsimp only; omega), ?_⟩ -- (↑v_9.fst : Int) < (↑w.toNat : Int)
      refine ⟨by first | omega | (dsimp only; omega), ?_⟩ -- (0 : Nat) + (↑v_9.fst : Int).toNat < v_9.snd.length
      intro z20
      intro qz20 -- z20 = v_9.snd.set ((0 : Nat) + (↑v_9.fst : Int).toNat) (UInt8.ofNat n17.toNat)
      intro n22
      intro q22 -- n22 = IntKind.i64.wrap ((↑v_9.fst : Int) + (1 : Int))
      rw [IntKind.wrap_i64] at q22
      intro ⟨l22, u22⟩ -- (-9223372036854775808 : Int) ≤ n22 ∧ n22 ≤ (9223372036854775807 : Int)
      refine ⟨(n22.toNat, z20), ?_⟩
      refine ⟨by first | with_reducible rfl | rfl, ?_⟩ -- n = n
      refine ⟨by first | with_reducible rfl | rfl, ?_⟩ -- (0 : Nat) = (0 : Nat)
      refine ⟨by first | with_reducible rfl | rfl, ?_⟩ -- w.toNat = w.toNat
      refine ⟨by first | with_reducible rfl | rfl, ?_⟩ -- w = w
      refine ⟨by show n22 = (↑n22.toNat : Int); omega, ?_⟩ -- n22 = (↑n22.toNat : Int)
      refine ⟨by first | with_reducible rfl | rfl, ?_⟩ -- z20 = z20
      refine ⟨?_, ?_⟩
      · -- left
        refine ⟨by show n22.toNat ≤ w.toNat; omega, ?_⟩ -- n22.toNat ≤ w.toNat
        have h4 : z20 = putL n.toNat n22.toNat ++ List.replicate (w.toNat - n22.toNat) (0 : UInt8) := by
          have e5 : n14 = ((n.toNat / 256 ^ v_9.fst : Nat) : Int) := by rw [q14]; exact shr8 n n11 v_9.fst n0 (by omega) (by omega)
          have e6 : n17.toNat = (n.toNat / 256 ^ v_9.fst) % 256 := by
            generalize n.toNat / 256 ^ v_9.fst = a at e5
            omega
          have sm := set_mid (putL n.toNat v_9.fst) (w.toNat - v_9.fst) (UInt8.ofNat (n.toNat / 256 ^ v_9.fst)) (by omega)
          rw [putL_len] at sm
          rw [qz20, e6, ofNat_mod, h2.2.1, Int.toNat_natCast, Nat.zero_add, sm, show n22.toNat = v_9.fst + 1 by omega, putL_succ, Nat.sub_sub]
        refine ⟨h4, ?_⟩
        -- z20.length = w.toNat
        rw [qz20]; simp; omega
      exact by show w.toNat - n22.toNat < w.toNat - v_9.fst; omega -- w.toNat - n22.toNat < w.toNat - v_9.fst
    · -- no
      -- k (AV.tup [AV.row (0 : Nat) (0 : Nat) (0 : Nat) w.toNat, AV.int IntKind.i64 (0 : Int)]) [] [Blk.row (0 : Nat) v_9.snd]
      have e : v_9.fst = w.toNat := by omega
      refine hk.1 ?_ v_9.snd w.toNat (by rw [h2.2.1, e, Nat.sub_self, List.replicate_zero, List.append_nil]) (by omega)
      unfold putOk
      simp only [decide_eq_true_eq]
      refine ⟨by omega, by omega, ?_⟩
      rcases Int.lt_or_le w 8 with h | h
      · have := c1.2 h
        rw [q4, shr8 n n1 w.toNat n0 (by omega) (by omega)] at this
        have h3 : n.toNat / 256 ^ w.toNat = 0 := by omega
        rcases Nat.div_eq_zero_iff.1 h3 with h4 | h4
        · exact absurd h4 (Nat.pos_iff_ne_zero.1 (Nat.pow_pos (by decide)))
        · exact h4
      · have : w.toNat = 8 := by omega
        rw [this]
        show n.toNat < 18446744073709551616
        omega

theorem put_ok : Holds Try.prog 30 put0S := by
  refine fn_sound (env := mkEnv T0) (tab_ok T0_ok) Try.func30 Try.call30 fun args k h => ?_
  match args, h with
  | [.int .u64 n, .int .i64 w], h => exact ⟨by kernel_rfl, putLoops n w, fun _ _ => none, .cast (by kernel_rfl) (put_vc n h.1.1 h.1.2 w h.2.1.1 h.2.1.2 k h.2.2)⟩
set_option maxHeartbeats 2000000 in
theorem get_vc (xs : List UInt8) (k : AV → List (Option Blk) → List Blk → Prop) (hk : ∀ (a e : Int), a = getV xs → e = getE xs → (0 : Int) ≤ a ∧ a ≤ (18446744073709551615 : Int) → e = (0 : Int) ∨ e = (8 : Int) → k (AV.tup [AV.int IntKind.u64 a, AV.int IntKind.i64 e]) [] []) :
  ∀ (n1 : Int),
  (n1 = (↑xs.length : Int)) →
  ((-9223372036854775808 : Int) ≤ n1 ∧ n1 ≤ (9223372036854775807 : Int)) →
  ∀ (n4 : Int),
  (n4 = (↑xs.length : Int)) →
  br (bif decide (n1 < (1 : Int)) then true else decide (n4 > (8 : Int)))
   ((k (AV.tup [AV.int IntKind.u64 (0 : Int), AV.int IntKind.i64 (8 : Int)]) [] []))
   (∀ (n6 : Int),
    (n6 = (↑xs.length : Int)) →
    ((-9223372036854775808 : Int) ≤ n6 ∧ n6 ≤ (9223372036854775807 : Int)) →
    (
     ∃ (v : Nat × Int),
     ((0 : Int) = v.snd) ∧
     (xs = xs) ∧
     (n6 = (↑xs.length : Int)) ∧
     ((0 : Int) = (↑v.fst : Int)) ∧
     (v.fst ≤ xs.length) ∧
     (xs.length ≤ (8 : Nat)) ∧
     (v.snd = (↑(getL (List.take v.fst xs)) : Int))) ∧
    ∀ (v_9 : Nat × Int),
    (v_9.fst ≤ xs.length ∧ xs.length ≤ (8 : Nat) ∧ v_9.snd = (↑(getL (List.take v_9.fst xs)) : Int)) →
    br (decide ((↑v_9.fst : Int) < (↑xs.length : Int)))
     (((0 : Int) ≤ (↑v_9.fst : Int)) ∧
      ((↑v_9.fst : Int) < (↑xs.length : Int)) ∧
      ∀ (n11 : Int),
      (n11 = (↑(xs.getD (↑v_9.fst : Int).toNat (0 : UInt8)).toNat : Int)) →
      ((0 : Int) ≤ n11 ∧ n11 ≤ (255 : Int)) →
      ∀ (n14 : Int),
      (n14 = IntKind.u64.wrap n11) →
      ((0 : Int) ≤ n14 ∧ n14 ≤ (18446744073709551615 : Int)) →
      ∀ (n17 : Int),
      (n17 = IntKind.i64.wrap ((8 : Int) * (↑v_9.fst : Int))) →
      ((-9223372036854775808 : Int) ≤ n17 ∧ n17 ≤ (9223372036854775807 : Int)) →
      ((0 : Int) ≤ n17) ∧
      ∀ (n20 : Int),
      (n20 = IntKind.u64.wrap (n14 * (2 : Int) ^ min n17.toNat IntKind.u64.bits)) →
      ((0 : Int) ≤ n20 ∧ n20 ≤ (18446744073709551615 : Int)) →
      ∀ (n23 : Int),
      (n23 = bits BinOp.or IntKind.u64 v_9.snd n20) →
      ((0 : Int) ≤ n23 ∧ n23 ≤ (18446744073709551615 : Int)) →
      ∀ (n26 : Int),
      (n26 = IntKind.i64.wrap ((↑v_9.fst : Int) + (1 : Int))) →
      ((-9223372036854775808 : Int) ≤ n26 ∧ n26 ≤ (9223372036854775807 : Int)) →
      ∃ (v' : Nat × Int),
      (n23 = v'.snd) ∧
      (xs = xs) ∧
      ((↑xs.length : Int) = (↑xs.length : Int)) ∧
      (n26 = (↑v'.fst : Int)) ∧
      (
       (v'.fst ≤ xs.length) ∧
       (xs.length ≤ (8 : Nat)) ∧
       (v'.snd = (↑(getL (List.take v'.fst xs)) : Int))) ∧
      (xs.length - v'.fst < xs.length - v_9.fst))
     ((k (AV.tup [AV.int IntKind.u64 v_9.snd, AV.int IntKind.i64 (0 : Int)]) [] []))) := by
  intro n1
  intro q1 -- n1 = (↑xs.length : Int)
  intro ⟨l1, u1⟩ -- (-9223372036854775808 : Int) ≤ n1 ∧ n1 ≤ (9223372036854775807 : Int)
  intro n4
  intro q4 -- n4 = (↑xs.length : Int)
  refine br_intro (fun c1 => ?_) (fun c1 => ?_) -- bif decide (n1 < (1 : Int)) then true else decide (n4 > (8 : Int))
  · -- yes
    simp at c1 -- n1 < (1 : Int) ∨ (8 : Int) < n4
    -- k (AV.tup [AV.int IntKind.u64 (0 : Int), AV.int IntKind.i64 (8 : Int)]) [] []
    exact hk 0 8 (by unfold getV; rw [if_neg (fun h => by unfold getOk at h; rw [decide_eq_true_eq] at h; omega)]) (by unfold getE; rw [if_neg (fun h => by unfold getOk at h; rw [decide_eq_true_eq] at h; omega)]) (by omega) (.inr rfl)
  · -- no
    simp at c1 -- (1 : Int) ≤ n1 ∧ n4 ≤ (8 : Int)
    intro n6
    intro q6 -- n6 = (↑xs.length : Int)
    intro ⟨l6, u6⟩ -- (-9223372036854775808 : Int) ≤ n6 ∧ n6 ≤ (9223372036854775807 : Int)
    refine ⟨?_, ?_⟩
    · -- left
      refine ⟨(Int.toNat (0 : Int), (0 : Int)), ?_⟩
      refine ⟨by first | with_reducible rfl | rfl, ?_⟩ -- (0 : Int) = (0 : Int)
      refine ⟨by first | with_reducible rfl | rfl, ?_⟩ -- xs = xs
      refine ⟨by show n6 = (↑xs.length : Int); assumption, ?_⟩ -- n6 = (↑xs.length : Int)
      refine ⟨by show (0 : Int) = (↑(Int.toNat (0 : Int)) : Int); omega, ?_⟩ -- (0 : Int) = (↑(Int.toNat (0 : Int)) : Int)
      refine ⟨by show Int.toNat (0 : Int) ≤ xs.length; omega, ?_⟩ -- Int.toNat (0 : Int) ≤ xs.length
      refine ⟨by show xs.length ≤ (8 : Nat); omega, ?_⟩ -- xs.length ≤ (8 : Nat)
      exact by rfl -- (0 : Int) = (↑(getL (List.take (Int.toNat (0 : Int)) xs)) : Int)
    intro v_9
    intro h2 -- v_9.fst ≤ xs.length ∧ xs.length ≤ (8 : Nat) ∧ v_9.snd = (↑(getL (List.take v_9.fst xs)) : Int)
    refine brd (fun c3 => ?_) (fun c3 => ?_) -- decide ((↑v_9.fst : Int) < (↑xs.length : Int))
    · -- yes
      refine ⟨by first | omega | (dsimp only; omega), ?_⟩ -- (0 : Int) ≤ (↑v_9.fst : Int)
      refine ⟨by assumption, ?_⟩ -- (↑v_9.fst : Int) < (↑xs.length : Int)
      intro n11
      intro q11 -- n11 = (↑(xs.getD (↑v_9.fst : Int).toNat (0 : UInt8)).toNat : Int)
      intro ⟨l11, u11⟩ -- (0 : Int) ≤ n11 ∧ n11 ≤ (255 : Int)
      intro n14
      intro q14 -- n14 = IntKind.u64.wrap n11
      rw [IntKind.wrap_u64] at q14
      intro ⟨l14, u14⟩ -- (0 : Int) ≤ n14 ∧ n14 ≤ (18446744073709551615 : Int)
      intro n17
      intro q17 -- n17 = IntKind.i64.wrap ((8 : Int) * (↑v_9.fst : Int))
      rw [IntKind.wrap_i64] at q17
      intro ⟨l17, u17⟩ -- (-9223372036854775808 : Int) ≤ n17 ∧ n17 ≤ (9223372036854775807 : Int)
      refine ⟨by first | omega | (dsimp only; omega), ?_⟩ -- (0 : Int) ≤ n17
      intro n20
      intro q20 -- n20 = IntKind.u64.wrap (n14 * (2 : Int) ^ min n17.toNat IntKind.u64.bits)
      rw [IntKind.wrap_u64] at q20
      intro ⟨l20, u20⟩ -- (0 : Int) ≤ n20 ∧ n20 ≤ (18446744073709551615 : Int)
      intro n23
      intro q23 -- n23 = bits BinOp.or IntKind.u64 v_9.snd n20
      intro ⟨l23, u23⟩ -- (0 : Int) ≤ n23 ∧ n23 ≤ (18446744073709551615 : Int)
      intro n26
      intro q26 -- n26 = IntKind.i64.wrap ((↑v_9.fst : Int) + (1 : Int))
      rw [IntKind.wrap_i64] at q26
      intro ⟨l26, u26⟩ -- (-9223372036854775808 : Int) ≤ n26 ∧ n26 ≤ (9223372036854775807 : Int)
      refine ⟨(n26.toNat, n23), ?_⟩
      refine ⟨by first | with_reducible rfl | rfl, ?_⟩ -- n23 = n23
      refine ⟨by first | with_reducible rfl | rfl, ?_⟩ -- xs = xs
      refine ⟨by first | with_reducible rfl | rfl, ?_⟩ -- (↑xs.length : Int) = (↑xs.length : Int)
      refine ⟨by show n26 = (↑n26.toNat : Int); omega, ?_⟩ -- n26 = (↑n26.toNat : Int)
      refine ⟨?_, ?_⟩
      · -- left
        refine ⟨by show n26.toNat ≤ xs.length; omega, ?_⟩ -- n26.toNat ≤ xs.length
        refine ⟨by show xs.length ≤ (8 : Nat); omega, ?_⟩ -- xs.length ≤ (8 : Nat)
        -- n23 = (↑(getL (List.take n26.toNat xs)) : Int)
        have e3 : n14 = (((xs.getD v_9.fst 0).toNat : Nat) : Int) := by
          have : n11 = (((xs.getD v_9.fst 0).toNat : Nat) : Int) := by rw [q11, Int.toNat_natCast]
          omega
        have hx : (xs.getD v_9.fst 0).toNat ≤ 255 := by omega
        have room := byte_room (xs.getD v_9.fst 0).toNat v_9.fst hx (by omega)
        have hlt : getL (List.take v_9.fst xs) < 2 ^ (8 * v_9.fst) := by
          have := getL_lt (List.take v_9.fst xs)
          rw [List.length_take, Nat.min_eq_left h2.1, ← pow8] at this
          exact this
        have e5 : n20 = (((xs.getD v_9.fst 0).toNat * 2 ^ (8 * v_9.fst) : Nat) : Int) := by
          rw [q20, e3]
          exact shl_val _ (8 * v_9.fst) n17 _ (by omega) (by show 8 * v_9.fst ≤ 64; omega) (by omega)
        rw [show n26.toNat = v_9.fst + 1 by omega, q23, e5, h2.2.2, or64 _ _ _ hlt (by omega), List.take_succ_eq_append_getElem (by omega), getL_append, List.length_take, Nat.min_eq_left h2.1, ← pow8]
        have : xs.getD v_9.fst 0 = xs[v_9.fst] := by simp [List.getD, show v_9.fst < xs.length by omega]
        rw [this]
      exact by show xs.length - n26.toNat < xs.length - v_9.fst; omega -- xs.length - n26.toNat < xs.length - v_9.fst
    · -- no
      -- k (AV.tup [AV.int IntKind.u64 v_9.snd, AV.int IntKind.i64 (0 : Int)]) [] []
      have e : v_9.fst = xs.length := by omega
      have bg := getL_lt xs
      have pg : 256 ^ xs.length ≤ 256 ^ 8 := Nat.pow_le_pow_right (by decide) (by omega)
      have pg : 256 ^ xs.length ≤ 18446744073709551616 := pg
      have t := h2.2.2
      rw [e, List.take_length] at t
      exact hk _ 0 (by unfold getV; rw [if_pos (by unfold getOk; rw [decide_eq_true_eq]; omega), t]) (by unfold getE; rw [if_pos (by unfold getOk; rw [decide_eq_true_eq]; omega)]) (by omega) (.inl rfl)

theorem get_ok : Holds Try.prog 34 getS := by
  refine fn_sound (env := mkEnv T0) (tab_ok T0_ok) Try.func34 Try.call34 fun args k h => ?_
  match args, h with
  | [.sl 0 xs], h => exact ⟨by kernel_rfl, getLoops xs, fun _ _ => none, .cast (by kernel_rfl) (get_vc xs k h)⟩
set_option maxHeartbeats 2000000 in
theorem sum_vc (xs : List UInt8) (k : AV → List (Option Blk) → List Blk → Prop) (hk : ∀ (n : Int), n = (↑(sumN xs) : Int) → inK IntKind.u32 n → k (AV.int IntKind.u32 n) [] []) :
  ([UInt32.ofNat (Int.toNat (0 : Int)), UInt32.ofNat (Int.toNat (498536548 : Int)), UInt32.ofNat (Int.toNat (997073096 : Int)), UInt32.ofNat (Int.toNat (651767980 : Int)), UInt32.ofNat (Int.toNat (1994146192 : Int)), UInt32.ofNat (Int.toNat (1802195444 : Int)), UInt32.ofNat (Int.toNat (1303535960 : Int)), UInt32.ofNat (Int.toNat (1342533948 : Int)), UInt32.ofNat (Int.toNat (3988292384 : Int)), UInt32.ofNat (Int.toNat (4027552580 : Int)), UInt32.ofNat (Int.toNat (3604390888 : Int)), UInt32.ofNat (Int.toNat (3412177804 : Int)), UInt32.ofNat (Int.toNat (2607071920 : Int)), UInt32.ofNat (Int.toNat (2262029012 : Int)), UInt32.ofNat (Int.toNat (2685067896 : Int)), UInt32.ofNat (Int.toNat (3183342108 : Int))].length = [UInt32.ofNat (Int.toNat (0 : Int)), UInt32.ofNat (Int.toNat (0 : Int)), UInt32.ofNat (Int.toNat (0 : Int)), UInt32.ofNat (Int.toNat (0 : Int)), UInt32.ofNat (Int.toNat (0 : Int)), UInt32.ofNat (Int.toNat (0 : Int)), UInt32.ofNat (Int.toNat (0 : Int)), UInt32.ofNat (Int.toNat (0 : Int)), UInt32.ofNat (Int.toNat (0 : Int)), UInt32.ofNat (Int.toNat (0 : Int)), UInt32.ofNat (Int.toNat (0 : Int)), UInt32.ofNat (Int.toNat (0 : Int)), UInt32.ofNat (Int.toNat (0 : Int)), UInt32.ofNat (Int.toNat (0 : Int)), UInt32.ofNat (Int.toNat (0 : Int)), UInt32.ofNat (Int.toNat (0 : Int))].length) ∧
  ∀ (n1 : Int),
  (n1 = (↑xs.length : Int)) →
  ((-9223372036854775808 : Int) ≤ n1 ∧ n1 ≤ (9223372036854775807 : Int)) →
  (
   ∃ (v : Nat × Nat),
   ((4294967295 : Int) = (↑v.snd : Int)) ∧
   (xs = xs) ∧
   (n1 = (↑xs.length : Int)) ∧
   ((0 : Int) = (↑v.fst : Int)) ∧
   ([UInt32.ofNat (Int.toNat (0 : Int)), UInt32.ofNat (Int.toNat (498536548 : Int)), UInt32.ofNat (Int.toNat (997073096 : Int)), UInt32.ofNat (Int.toNat (651767980 : Int)), UInt32.ofNat (Int.toNat (1994146192 : Int)), UInt32.ofNat (Int.toNat (1802195444 : Int)), UInt32.ofNat (Int.toNat (1303535960 : Int)), UInt32.ofNat (Int.toNat (1342533948 : Int)), UInt32.ofNat (Int.toNat (3988292384 : Int)), UInt32.ofNat (Int.toNat (4027552580 : Int)), UInt32.ofNat (Int.toNat (3604390888 : Int)), UInt32.ofNat (Int.toNat (3412177804 : Int)), UInt32.ofNat (Int.toNat (2607071920 : Int)), UInt32.ofNat (Int.toNat (2262029012 : Int)), UInt32.ofNat (Int.toNat (2685067896 : Int)), UInt32.ofNat (Int.toNat (3183342108 : Int))] = tabL) ∧
   (v.fst ≤ xs.length) ∧
   (v.snd = crc (4294967295 : Nat) (List.take v.fst xs)) ∧
   (v.snd < (4294967296 : Nat))) ∧
  ∀ (v_4 : Nat × Nat),
  (v_4.fst ≤ xs.length ∧ v_4.snd = crc (4294967295 : Nat) (List.take v_4.fst xs) ∧ v_4.snd < (4294967296 : Nat)) →
  br (decide ((↑v_4.fst : Int) < (↑xs.length : Int)))
   (((0 : Int) ≤ (↑v_4.fst : Int)) ∧
    ((↑v_4.fst : Int) < (↑xs.length : Int)) ∧
    ∀ (n6 : Int),
    (n6 = (↑(xs.getD (↑v_4.fst : Int).toNat (0 : UInt8)).toNat : Int)) →
    ((0 : Int) ≤ n6 ∧ n6 ≤ (255 : Int)) →
    ((0 : Int) ≤ (4 : Int)) ∧
    ∀ (n9 : Int),
    (n9 = (↑v_4.snd : Int).fdiv ((2 : Int) ^ min (Int.toNat (4 : Int)) IntKind.u32.bits)) →
    ((0 : Int) ≤ n9 ∧ n9 ≤ (4294967295 : Int)) →
    ∀ (n12 : Int),
    (n12 = IntKind.u32.wrap n6) →
    ((0 : Int) ≤ n12 ∧ n12 ≤ (4294967295 : Int)) →
    ∀ (n15 : Int),
    (n15 = bits BinOp.xor IntKind.u32 (↑v_4.snd : Int) n12) →
    ((0 : Int) ≤ n15 ∧ n15 ≤ (4294967295 : Int)) →
    ∀ (n18 : Int),
    (n18 = bits BinOp.and IntKind.u32 n15 (15 : Int)) →
    ((0 : Int) ≤ n18 ∧ n18 ≤ (4294967295 : Int)) →
    ((0 : Int) ≤ n18) ∧
    (n18 < (↑(16 : Nat) : Int)) ∧
    (n18.toNat < tabL.length) ∧
    ∀ (n21 : Int),
    (n21 = (↑(tabL.getD n18.toNat (0 : UInt32)).toNat : Int)) →
    ((0 : Int) ≤ n21 ∧ n21 ≤ (4294967295 : Int)) →
    ∀ (n24 : Int),
    (n24 = bits BinOp.xor IntKind.u32 n9 n21) →
    ((0 : Int) ≤ n24 ∧ n24 ≤ (4294967295 : Int)) →
    ((0 : Int) ≤ (4 : Int)) ∧
    ∀ (n27 : Int),
    (n27 = n24.fdiv ((2 : Int) ^ min (Int.toNat (4 : Int)) IntKind.u32.bits)) →
    ((0 : Int) ≤ n27 ∧ n27 ≤ (4294967295 : Int)) →
    ((0 : Int) ≤ (4 : Int)) ∧
    ∀ (n30 : Int),
    (n30 = n6.fdiv ((2 : Int) ^ min (Int.toNat (4 : Int)) IntKind.u8.bits)) →
    ((0 : Int) ≤ n30 ∧ n30 ≤ (255 : Int)) →
    ∀ (n33 : Int),
    (n33 = IntKind.u32.wrap n30) →
    ((0 : Int) ≤ n33 ∧ n33 ≤ (4294967295 : Int)) →
    ∀ (n36 : Int),
    (n36 = bits BinOp.xor IntKind.u32 n24 n33) →
    ((0 : Int) ≤ n36 ∧ n36 ≤ (4294967295 : Int)) →
    ∀ (n39 : Int),
    (n39 = bits BinOp.and IntKind.u32 n36 (15 : Int)) →
    ((0 : Int) ≤ n39 ∧ n39 ≤ (4294967295 : Int)) →
    ((0 : Int) ≤ n39) ∧
    (n39 < (↑(16 : Nat) : Int)) ∧
    (n39.toNat < tabL.length) ∧
    ∀ (n42 : Int),
    (n42 = (↑(tabL.getD n39.toNat (0 : UInt32)).toNat : Int)) →
    ((0 : Int) ≤ n42 ∧ n42 ≤ (4294967295 : Int)) →
    ∀ (n45 : Int),
    (n45 = bits BinOp.xor IntKind.u32 n27 n42) →
    ((0 : Int) ≤ n45 ∧ n45 ≤ (4294967295 : Int)) →
    ∀ (n48 : Int),
    (n48 = IntKind.i64.wrap ((↑v_4.fst : Int) + (1 : Int))) →
    ((-9223372036854775808 : Int) ≤ n48 ∧ n48 ≤ (9223372036854775807 : Int)) →
    ∃ (v' : Nat × Nat),
    (n45 = (↑v'.snd : Int)) ∧
    (xs = xs) ∧
    ((↑xs.length : Int) = (↑xs.length : Int)) ∧
    (n48 = (↑v'.fst : Int)) ∧
    (tabL = tabL) ∧
    (
     (v'.fst ≤ xs.length) ∧
     (v'.snd = crc (4294967295 : Nat) (List.take v'.fst xs)) ∧
     (v'.snd < (4294967296 : Nat))) ∧
    (xs.length - v'.fst < xs.length - v_4.fst))
   (∀ (n51 : Int),
    (n51 = bits BinOp.xor IntKind.u32 (4294967295 : Int) (↑v_4.snd : Int)) →
    ((0 : Int) ≤ n51 ∧ n51 ≤ (4294967295 : Int)) →
    (k (AV.int IntKind.u32 n51) [] [])) := by
  refine ⟨by decide, ?_⟩ -- [UInt32.ofNat (Int.toNat (0 : Int)), UInt32.ofNat (Int.toNat (498536548 : Int)), UInt32.ofNat (Int.toNat (997073096 : Int)), UInt32.ofNat (Int.toNat (651767980 : Int)), UInt32.ofNat (Int.toNat (1994146192 : Int)), UInt32.ofNat (Int.toNat (1802195444 : Int)), UInt32.ofNat (Int.toNat (1303535960 : Int)), UInt32.ofNat (Int.toNat (1342533948 : Int)), UInt32.ofNat (Int.toNat (3988292384 : Int)), UInt32.ofNat (Int.toNat (4027552580 : Int)), UInt32.ofNat (Int.toNat (3604390888 : Int)), UInt32.ofNat (Int.toNat (3412177804 : Int)), UInt32.ofNat (Int.toNat (2607071920 : Int)), UInt32.ofNat (Int.toNat (2262029012 : Int)), UInt32.ofNat (Int.toNat (2685067896 : Int)), UInt32.ofNat (Int.toNat (3183342108 : Int))].length = [UInt32.ofNat (Int.toNat (0 : Int)), UInt32.ofNat (Int.toNat (0 : Int)), UInt32.ofNat (Int.toNat (0 : Int)), UInt32.ofNat (Int.toNat (0 : Int)), UInt32.ofNat (Int.toNat (0 : Int)), UInt32.ofNat (Int.toNat (0 : Int)), UInt32.ofNat (Int.toNat (0 : Int)), UInt32.ofNat (Int.toNat (0 : Int)), UInt32.ofNat (Int.toNat (0 : Int)), UInt32.ofNat (Int.toNat (0 : Int)), UInt32.ofNat (Int.toNat (0 : Int)), UInt32.ofNat (Int.toNat (0 : Int)), UInt32.ofNat (Int.toNat (0 : Int)), UInt32.ofNat (Int.toNat (0 : Int)), UInt32.ofNat (Int.toNat (0 : Int)), UInt32.ofNat (Int.toNat (0 : Int))].length
  intro n1
  intro q1 -- n1 = (↑xs.length : Int)
  intro ⟨l1, u1⟩ -- (-9223372036854775808 : Int) ≤ n1 ∧ n1 ≤ (9223372036854775807 : Int)
  refine ⟨?_, ?_⟩
  · -- left
    refine ⟨(Int.toNat (0 : Int), crc (4294967295 : Nat) (List.take (Int.toNat (0 : Int)) xs)), ?_⟩
    refine ⟨by rfl, ?_⟩ -- (4294967295 : Int) = (↑(crc (4294967295 : Nat) (List.take (Int.toNat (0 : Int)) xs)) : Int)
    refine ⟨by first | with_reducible rfl | rfl, ?_⟩ -- xs = xs
    refine ⟨by show n1 = (↑xs.length : Int); assumption, ?_⟩ -- n1 = (↑xs.length : Int)
    refine ⟨by show (0 : Int) = (↑(Int.toNat (0 : Int)) : Int); omega, ?_⟩ -- (0 : Int) = (↑(Int.toNat (0 : Int)) : Int)
    refine ⟨by show [UInt32.ofNat (Int.toNat (0 : Int)), UInt32.ofNat (Int.toNat (498536548 : Int)), UInt32.ofNat (Int.toNat (997073096 : Int)), UInt32.ofNat (Int.toNat (651767980 : Int)), UInt32.ofNat (Int.toNat (1994146192 : Int)), UInt32.ofNat (Int.toNat (1802195444 : Int)), UInt32.ofNat (Int.toNat (1303535960 : Int)), UInt32.ofNat (Int.toNat (1342533948 : Int)), UInt32.ofNat (Int.toNat (3988292384 : Int)), UInt32.ofNat (Int.toNat (4027552580 : Int)), UInt32.ofNat (Int.toNat (3604390888 : Int)), UInt32.ofNat (Int.toNat (3412177804 : Int)), UInt32.ofNat (Int.toNat (2607071920 : Int)), UInt32.ofNat (Int.toNat (2262029012 : Int)), UInt32.ofNat (Int.toNat (2685067896 : Int)), UInt32.ofNat (Int.toNat (3183342108 : Int))] = tabL; decide, ?_⟩ -- [UInt32.ofNat (Int.toNat (0 : Int)), UInt32.ofNat (Int.toNat (498536548 : Int)), UInt32.ofNat (Int.toNat (997073096 : Int)), UInt32.ofNat (Int.toNat (651767980 : Int)), UInt32.ofNat (Int.toNat (1994146192 : Int)), UInt32.ofNat (Int.toNat (1802195444 : Int)), UInt32.ofNat (Int.toNat (1303535960 : Int)), UInt32.ofNat (Int.toNat (1342533948 : Int)), UInt32.ofNat (Int.toNat (3988292384 : Int)), UInt32.ofNat (Int.toNat (4027552580 : Int)), UInt32.ofNat (Int.toNat (3604390888 : Int)), UInt32.ofNat (Int.toNat (3412177804 : Int)), UInt32.ofNat (Int.toNat (2607071920 : Int)), UInt32.ofNat (Int.toNat (2262029012 : Int)), UInt32.ofNat (Int.toNat (2685067896 : Int)), UInt32.ofNat (Int.toNat (3183342108 : Int))] = tabL
    refine ⟨by show Int.toNat (0 : Int) ≤ xs.length; omega, ?_⟩ -- Int.toNat (0 : Int) ≤ xs.length
    refine ⟨by first | with_reducible rfl | rfl, ?_⟩ -- crc (4294967295 : Nat) (List.take (Int.toNat (0 : Int)) xs) = crc (4294967295 : Nat) (List.take (Int.toNat (0 : Int)) xs)
    -- crc (4294967295 : Nat) (List.take (Int.toNat (0 : Int)) xs) < (4294967296 : Nat)
    exact crc_lt _ (by decide)
  intro v_4
  intro h1 -- v_4.fst ≤ xs.length ∧ v_4.snd = crc (4294967295 : Nat) (List.take v_4.fst xs) ∧ v_4.snd < (4294967296 : Nat)
  refine brd (fun c2 => ?_) (fun c2 => ?_) -- decide ((↑v_4.fst : Int) < (↑xs.length : Int))
  · -- yes
    refine ⟨by first | omega | (dsimp only; omega), ?_⟩ -- (0 : Int) ≤ (↑v_4.fst : Int)
    refine ⟨by assumption, ?_⟩ -- (↑v_4.fst : Int) < (↑xs.length : Int)
    intro n6
    intro q6 -- n6 = (↑(xs.getD (↑v_4.fst : Int).toNat (0 : UInt8)).toNat : Int)
    intro ⟨l6, u6⟩ -- (0 : Int) ≤ n6 ∧ n6 ≤ (255 : Int)
    refine ⟨by first | omega | (dsimp only; omega), ?_⟩ -- (0 : Int) ≤ (4 : Int)
    intro n9
    intro q9 -- n9 = (↑v_4.snd : Int).fdiv ((2 : Int) ^ min (Int.toNat (4 : Int)) IntKind.u32.bits)
    rw [show (2 : Int) ^ min (Int.toNat (4 : Int)) IntKind.u32.bits = 16 from rfl, Int.fdiv_eq_ediv_of_nonneg _ (by decide)] at q9
    intro ⟨l9, u9⟩ -- (0 : Int) ≤ n9 ∧ n9 ≤ (4294967295 : Int)
    intro n12
    intro q12 -- n12 = IntKind.u32.wrap n6
    rw [IntKind.wrap_u32] at q12
    intro ⟨l12, u12⟩ -- (0 : Int) ≤ n12 ∧ n12 ≤ (4294967295 : Int)
    intro n15
    intro q15 -- n15 = bits BinOp.xor IntKind.u32 (↑v_4.snd : Int) n12
    rw [xor_u32 _ _ (by omega) (by omega) (by omega) (by omega)] at q15
    intro ⟨l15, u15⟩ -- (0 : Int) ≤ n15 ∧ n15 ≤ (4294967295 : Int)
    intro n18
    intro q18 -- n18 = bits BinOp.and IntKind.u32 n15 (15 : Int)
    rw [and_u32 4 (by decide) 15 16 (by decide) (by decide) _ (by omega) (by omega)] at q18
    intro ⟨l18, u18⟩ -- (0 : Int) ≤ n18 ∧ n18 ≤ (4294967295 : Int)
    refine ⟨by assumption, ?_⟩ -- (0 : Int) ≤ n18
    refine ⟨by first | omega | (dsimp only; omega), ?_⟩ -- n18 < (↑(16 : Nat) : Int)
    have h3 : n18.toNat < tabL.length := by
      show n18.toNat < 16
      omega
    refine ⟨h3, ?_⟩
    intro n21
    intro q21 -- n21 = (↑(tabL.getD n18.toNat (0 : UInt32)).toNat : Int)
    intro ⟨l21, u21⟩ -- (0 : Int) ≤ n21 ∧ n21 ≤ (4294967295 : Int)
    intro n24
    intro q24 -- n24 = bits BinOp.xor IntKind.u32 n9 n21
    rw [xor_u32 _ _ (by omega) (by omega) (by omega) (by omega)] at q24
    intro ⟨l24, u24⟩ -- (0 : Int) ≤ n24 ∧ n24 ≤ (4294967295 : Int)
    refine ⟨by first | omega | (dsimp only; omega), ?_⟩ -- (0 : Int) ≤ (4 : Int)
    intro n27
    intro q27 -- n27 = n24.fdiv ((2 : Int) ^ min (Int.toNat (4 : Int)) IntKind.u32.bits)
    rw [show (2 : Int) ^ min (Int.toNat (4 : Int)) IntKind.u32.bits = 16 from rfl, Int.fdiv_eq_ediv_of_nonneg _ (by decide)] at q27
    intro ⟨l27, u27⟩ -- (0 : Int) ≤ n27 ∧ n27 ≤ (4294967295 : Int)
    refine ⟨by first | omega | (dsimp only; omega), ?_⟩ -- (0 : Int) ≤ (4 : Int)
    intro n30
    intro q30 -- n30 = n6.fdiv ((2 : Int) ^ min (Int.toNat (4 : Int)) IntKind.u8.bits)
    rw [show (2 : Int) ^ min (Int.toNat (4 : Int)) IntKind.u8.bits = 16 from rfl, Int.fdiv_eq_ediv_of_nonneg _ (by decide)] at q30
    intro ⟨l30, u30⟩ -- (0 : Int) ≤ n30 ∧ n30 ≤ (255 : Int)
    intro n33
    intro q33 -- n33 = IntKind.u32.wrap n30
    rw [IntKind.wrap_u32] at q33
    intro ⟨l33, u33⟩ -- (0 : Int) ≤ n33 ∧ n33 ≤ (4294967295 : Int)
    intro n36
    intro q36 -- n36 = bits BinOp.xor IntKind.u32 n24 n33
    rw [xor_u32 _ _ (by omega) (by omega) (by omega) (by omega)] at q36
    intro ⟨l36, u36⟩ -- (0 : Int) ≤ n36 ∧ n36 ≤ (4294967295 : Int)
    intro n39
    intro q39 -- n39 = bits BinOp.and IntKind.u32 n36 (15 : Int)
    rw [and_u32 4 (by decide) 15 16 (by decide) (by decide) _ (by omega) (by omega)] at q39
    intro ⟨l39, u39⟩ -- (0 : Int) ≤ n39 ∧ n39 ≤ (4294967295 : Int)
    refine ⟨by assumption, ?_⟩ -- (0 : Int) ≤ n39
    refine ⟨by first | omega | (dsimp only; omega), ?_⟩ -- n39 < (↑(16 : Nat) : Int)
    have h4 : n39.toNat < tabL.length := by
      show n39.toNat < 16
      omega
    refine ⟨h4, ?_⟩
    intro n42
    intro q42 -- n42 = (↑(tabL.getD n39.toNat (0 : UInt32)).toNat : Int)
    intro ⟨l42, u42⟩ -- (0 : Int) ≤ n42 ∧ n42 ≤ (4294967295 : Int)
    intro n45
    intro q45 -- n45 = bits BinOp.xor IntKind.u32 n27 n42
    rw [xor_u32 _ _ (by omega) (by omega) (by omega) (by omega)] at q45
    intro ⟨l45, u45⟩ -- (0 : Int) ≤ n45 ∧ n45 ≤ (4294967295 : Int)
    intro n48
    intro q48 -- n48 = IntKind.i64.wrap ((↑v_4.fst : Int) + (1 : Int))
    rw [IntKind.wrap_i64] at q48
    intro ⟨l48, u48⟩ -- (-9223372036854775808 : Int) ≤ n48 ∧ n48 ≤ (9223372036854775807 : Int)
    refine ⟨(n48.toNat, crc (4294967295 : Nat) (List.take n48.toNat xs)), ?_⟩
    have h5 : n45 = (↑(crc (4294967295 : Nat) (List.take n48.toNat xs)) : Int) := by
      have ex : n6 = ((xs.getD v_4.fst 0).toNat : Int) := by rw [q6, Int.toNat_natCast]
      have A := nib_v (r := v_4.snd) (x := (xs.getD v_4.fst 0).toNat) q9 (by omega) q15 q18 q21 q24
      have B := nib_v (r := nib v_4.snd (xs.getD v_4.fst 0).toNat) (x := (xs.getD v_4.fst 0).toNat / 16) (n9 := n27) (by rw [q27, A]) (n12 := n33) (by omega) (n15 := n36) (by rw [q36, A]) q39 q42 q45
      rw [show n48.toNat = v_4.fst + 1 by omega, crc_step (by omega), ← h1.2.1]
      exact B
    refine ⟨h5, ?_⟩
    refine ⟨by first | with_reducible rfl | rfl, ?_⟩ -- xs = xs
    refine ⟨by first | with_reducible rfl | rfl, ?_⟩ -- (↑xs.length : Int) = (↑xs.length : Int)
    refine ⟨by show n48 = (↑n48.toNat : Int); omega, ?_⟩ -- n48 = (↑n48.toNat : Int)
    refine ⟨by first | with_reducible rfl | rfl, ?_⟩ -- tabL = tabL
    refine ⟨?_, ?_⟩
    · -- left
      refine ⟨by show n48.toNat ≤ xs.length; omega, ?_⟩ -- n48.toNat ≤ xs.length
      refine ⟨by first | with_reducible rfl | rfl, ?_⟩ -- crc (4294967295 : Nat) (List.take n48.toNat xs) = crc (4294967295 : Nat) (List.take n48.toNat xs)
      exact by show crc (4294967295 : Nat) (List.take n48.toNat xs) < (4294967296 : Nat); omega -- crc (4294967295 : Nat) (List.take n48.toNat xs) < (4294967296 : Nat)
    exact by show xs.length - n48.toNat < xs.length - v_4.fst; omega -- xs.length - n48.toNat < xs.length - v_4.fst
  · -- no
    intro n51
    intro q51 -- n51 = bits BinOp.xor IntKind.u32 (4294967295 : Int) (↑v_4.snd : Int)
    rw [xor_u32 _ _ (by omega) (by omega) (by omega) (by omega)] at q51
    intro ⟨l51, u51⟩ -- (0 : Int) ≤ n51 ∧ n51 ≤ (4294967295 : Int)
    -- k (AV.int IntKind.u32 n51) [] []
    refine hk n51 ?_ ⟨by omega, by omega⟩
    rw [q51, Int.toNat_natCast]
    show ((4294967295 ^^^ v_4.snd : Nat) : Int) = _
    rw [not32 h1.2.2, h1.2.1, List.take_of_length_le (by omega)]
    rfl

theorem sum_ok : Holds Try.prog 31 sumS := by
  refine fn_sound (env := mkEnv T0) (tab_ok T0_ok) Try.func31 Try.call31 fun args k h => ?_
  match args, h with
  | [.sl 0 xs], h => exact ⟨by kernel_rfl, sumLoops xs, fun _ _ => none, .cast (by kernel_rfl) (sum_vc xs k h)⟩
theorem T1_ok : TabOk Try.prog T1 := ⟨cloneR_ok, put_up put_ok, get_ok, sum_ok, trivial⟩
set_option maxHeartbeats 2000000 in
theorem stuff_vc (b : List UInt8) (hx : b.length ≤ (1000000 : Nat)) (k : AV → List (Option Blk) → List Blk → Prop) (hk : ∀ (ys : List UInt8) (n : Nat), ys = stf b → ys.length = n → k (AV.row (0 : Nat) (0 : Nat) (0 : Nat) n) [] [Blk.row (0 : Nat) ys]) :
  ∀ (n1 : Int),
  (n1 = (↑b.length : Int)) →
  ((-9223372036854775808 : Int) ≤ n1 ∧ n1 ≤ (9223372036854775807 : Int)) →
  (
   ((0 : Int) ≤ (0 : Int)) ∧
   ((0 : Int) ≤ n1) ∧
   (n1 * (↑(1 : Nat) : Int) ≤ (140737488355328 : Int))) ∧
  ∀ (n4 : Int),
  (n4 = (↑b.length : Int)) →
  ((-9223372036854775808 : Int) ≤ n4 ∧ n4 ≤ (9223372036854775807 : Int)) →
  (
   ∃ (v : Nat × List UInt8),
   ((0 : Nat) = (0 : Nat)) ∧
   (Int.toNat (0 : Int) = v.snd.length) ∧
   (b = b) ∧
   (n4 = (↑b.length : Int)) ∧
   ((0 : Int) = (↑v.fst : Int)) ∧
   (List.replicate (Int.toNat (0 : Int)) (UInt8.ofNat (Int.toNat (0 : Int))) = v.snd) ∧
   (v.fst ≤ b.length) ∧
   (v.snd = stf (List.take v.fst b)) ∧
   (v.snd.length ≤ (2 : Nat) * v.fst) ∧
   (b.length ≤ (1000000 : Nat))) ∧
  ∀ (v_7 : Nat × List UInt8),
  (v_7.fst ≤ b.length ∧ v_7.snd = stf (List.take v_7.fst b) ∧ v_7.snd.length ≤ (2 : Nat) * v_7.fst ∧ b.length ≤ (1000000 : Nat)) →
  br (decide ((↑v_7.fst : Int) < (↑b.length : Int)))
   (((0 : Int) ≤ (↑v_7.fst : Int)) ∧
    ((↑v_7.fst : Int) < (↑b.length : Int)) ∧
    ∀ (n9 : Int),
    (n9 = (↑(b.getD (↑v_7.fst : Int).toNat (0 : UInt8)).toNat : Int)) →
    ((0 : Int) ≤ n9 ∧ n9 ≤ (255 : Int)) →
    br (bif n9 == (125 : Int) then true else n9 == (126 : Int))
     (((v_7.snd.length + (1 : Nat)) * (1 : Nat) ≤ (140737488355328 : Nat)) ∧
      ∀ (z12 : List UInt8),
      (z12 = List.take v_7.snd.length v_7.snd ++ List.take (1 : Nat) (List.drop (0 : Nat) [UInt8.ofNat (Int.toNat (125 : Int))])) →
      ∀ (n14 : Int),
      (n14 = IntKind.u8.wrap (n9 - (32 : Int))) →
      ((0 : Int) ≤ n14 ∧ n14 ≤ (255 : Int)) →
      ((v_7.snd.length + (1 : Nat) + (1 : Nat)) * (1 : Nat) ≤ (140737488355328 : Nat)) ∧
      ∀ (z17 : List UInt8),
      (z17 = List.take (v_7.snd.length + (1 : Nat)) z12 ++ List.take (1 : Nat) (List.drop (0 : Nat) [UInt8.ofNat n14.toNat])) →
      ∀ (n19 : Int),
      (n19 = IntKind.i64.wrap ((↑v_7.fst : Int) + (1 : Int))) →
      ((-9223372036854775808 : Int) ≤ n19 ∧ n19 ≤ (9223372036854775807 : Int)) →
      ∃ (v' : Nat × List UInt8),
      ((0 : Nat) = (0 : Nat)) ∧
      (v_7.snd.length + (1 : Nat) + (1 : Nat) = v'.snd.length) ∧
      (b = b) ∧
      ((↑b.length : Int) = (↑b.length : Int)) ∧
      (n19 = (↑v'.fst : Int)) ∧
      (z17 = v'.snd) ∧
      (
       (v'.fst ≤ b.length) ∧
       (v'.snd = stf (List.take v'.fst b)) ∧
       (v'.snd.length ≤ (2 : Nat) * v'.fst) ∧
       (b.length ≤ (1000000 : Nat))) ∧
      (b.length - v'.fst < b.length - v_7.fst))
     (((v_7.snd.length + (1 : Nat)) * (1 : Nat) ≤ (140737488355328 : Nat)) ∧
      ∀ (z22 : List UInt8),
      (z22 = List.take v_7.snd.length v_7.snd ++ List.take (1 : Nat) (List.drop (0 : Nat) [UInt8.ofNat n9.toNat])) →
      ∀ (n24 : Int),
      (n24 = IntKind.i64.wrap ((↑v_7.fst : Int) + (1 : Int))) →
      ((-9223372036854775808 : Int) ≤ n24 ∧ n24 ≤ (9223372036854775807 : Int)) →
      ∃ (v' : Nat × List UInt8),
      ((0 : Nat) = (0 : Nat)) ∧
      (v_7.snd.length + (1 : Nat) = v'.snd.length) ∧
      (b = b) ∧
      ((↑b.length : Int) = (↑b.length : Int)) ∧
      (n24 = (↑v'.fst : Int)) ∧
      (z22 = v'.snd) ∧
      (
       (v'.fst ≤ b.length) ∧
       (v'.snd = stf (List.take v'.fst b)) ∧
       (v'.snd.length ≤ (2 : Nat) * v'.fst) ∧
       (b.length ≤ (1000000 : Nat))) ∧
      (b.length - v'.fst < b.length - v_7.fst)))
   ((k (AV.row (0 : Nat) (0 : Nat) (0 : Nat) v_7.snd.length) [] [Blk.row (0 : Nat) v_7.snd])) := by
  intro n1
  intro q1 -- n1 = (↑b.length : Int)
  intro ⟨l1, u1⟩ -- (-9223372036854775808 : Int) ≤ n1 ∧ n1 ≤ (9223372036854775807 : Int)
  refine ⟨?_, ?_⟩
  · -- left
    refine ⟨by first | omega | (dsimp only; omega), ?_⟩ -- (0 : Int) ≤ (0 : Int)
    refine ⟨by first | omega | (dsimp only; omega), ?_⟩ -- (0 : Int) ≤ n1
    exact by omega -- n1 * (↑(1 : Nat) : Int) ≤ (140737488355328 : Int)
  intro n4
  intro q4 -- n4 = (↑b.length : Int)
  intro ⟨l4, u4⟩ -- (-9223372036854775808 : Int) ≤ n4 ∧ n4 ≤ (9223372036854775807 : Int)
  refine ⟨?_, ?_⟩
  · -- left
    refine ⟨(Int.toNat (0 : Int), List.replicate (Int.toNat (0 : Int)) (UInt8.ofNat (Int.toNat (0 : Int)))), ?_⟩
    refine ⟨by first | with_reducible rfl | rfl, ?_⟩ -- (0 : Nat) = (0 : Nat)
    refine ⟨by show Int.toNat (0 : Int) = (List.replicate (Int.toNat (0 : Int)) (UInt8.ofNat (Int.toNat (0 : Int)))).length; decide, ?_⟩ -- Int.toNat (0 : Int) = (List.replicate (Int.toNat (0 : Int)) (UInt8.ofNat (Int.toNat (0 : Int)))).length
    refine ⟨by first | with_reducible rfl | rfl, ?_⟩ -- b = b
    refine ⟨by show n4 = (↑b.length : Int); assumption, ?_⟩ -- n4 = (↑b.length : Int)
    refine ⟨by show (0 : Int) = (↑(Int.toNat (0 : Int)) : Int); omega, ?_⟩ -- (0 : Int) = (↑(Int.toNat (0 : Int)) : Int)
    refine ⟨by first | with_reducible rfl | rfl, ?_⟩ -- List.replicate (Int.toNat (0 : Int)) (UInt8.ofNat (Int.toNat (0 : Int))) = List.replicate (Int.toNat (0 : Int)) (UInt8.ofNat (Int.toNat (0 : Int)))
    refine ⟨by show Int.toNat (0 : Int) ≤ b.length; omega, ?_⟩ -- Int.toNat (0 : Int) ≤ b.length
    refine ⟨by rfl, ?_⟩ -- List.replicate (Int.toNat (0 : Int)) (UInt8.ofNat (Int.toNat (0 : Int))) = stf (List.take (Int.toNat (0 : Int)) b)
    refine ⟨by show (List.replicate (Int.toNat (0 : Int)) (UInt8.ofNat (Int.toNat (0 : Int)))).length ≤ (2 : Nat) * Int.toNat (0 : Int); decide, ?_⟩ -- (List.replicate (Int.toNat (0 : Int)) (UInt8.ofNat (Int.toNat (0 : Int)))).length ≤ (2 : Nat) * Int.toNat (0 : Int)
    exact by show b.length ≤ (1000000 : Nat); assumption -- b.length ≤ (1000000 : Nat)
  intro v_7
  intro h1 -- v_7.fst ≤ b.length ∧ v_7.snd = stf (List.take v_7.fst b) ∧ v_7.snd.length ≤ (2 : Nat) * v_7.fst ∧ b.length ≤ (1000000 : Nat)
  refine brd (fun c2 => ?_) (fun c2 => ?_) -- decide ((↑v_7.fst : Int) < (↑b.length : Int))
  · -- yes
    refine ⟨by first | omega | (dsimp only; omega), ?_⟩ -- (0 : Int) ≤ (↑v_7.fst : Int)
    refine ⟨by assumption, ?_⟩ -- (↑v_7.fst : Int) < (↑b.length : Int)
    intro n9
    intro q9 -- n9 = (↑(b.getD (↑v_7.fst : Int).toNat (0 : UInt8)).toNat : Int)
    intro ⟨l9, u9⟩ -- (0 : Int) ≤ n9 ∧ n9 ≤ (255 : Int)
    refine br_intro (fun c3 => ?_) (fun c3 => ?_) -- bif n9 == (125 : Int) then true else n9 == (126 : Int)
    · -- yes
      simp at c3 -- n9 = (125 : Int) ∨ n9 = (126 : Int)
      refine ⟨by first | omega | (dsimp only; omega), ?_⟩ -- (v_7.snd.length + (1 : Nat)) * (1 : Nat) ≤ (140737488355328 : Nat)
      intro z12
      intro qz12 -- z12 = List.take v_7.snd.length v_7.snd ++ List.take (1 : Nat) (List.drop (0 : Nat) [UInt8.ofNat (Int.toNat (125 : Int))])
      intro n14
      intro q14 -- n14 = IntKind.u8.wrap (n9 - (32 : Int))
      rw [IntKind.wrap_u8] at q14
      intro ⟨l14, u14⟩ -- (0 : Int) ≤ n14 ∧ n14 ≤ (255 : Int)
      refine ⟨by first | omega | (dsimp only; omega), ?_⟩ -- (v_7.snd.length + (1 : Nat) + (1 : Nat)) * (1 : Nat) ≤ (140737488355328 : Nat)
      intro z17
      intro qz17 -- z17 = List.take (v_7.snd.length + (1 : Nat)) z12 ++ List.take (1 : Nat) (List.drop (0 : Nat) [UInt8.ofNat n14.toNat])
      intro n19
      intro q19 -- n19 = IntKind.i64.wrap ((↑v_7.fst : Int) + (1 : Int))
      rw [IntKind.wrap_i64] at q19
      intro ⟨l19, u19⟩ -- (-9223372036854775808 : Int) ≤ n19 ∧ n19 ≤ (9223372036854775807 : Int)
      refine ⟨(n19.toNat, z17), ?_⟩
      refine ⟨by first | with_reducible rfl | rfl, ?_⟩ -- (0 : Nat) = (0 : Nat)
      have h4 : v_7.snd.length + (1 : Nat) + (1 : Nat) = z17.length := by
        rw [qz17, qz12]; simp; try omega
      refine ⟨h4, ?_⟩
      refine ⟨by first | with_reducible rfl | rfl, ?_⟩ -- b = b
      refine ⟨by first | with_reducible rfl | rfl, ?_⟩ -- (↑b.length : Int) = (↑b.length : Int)
      refine ⟨by show n19 = (↑n19.toNat : Int); omega, ?_⟩ -- n19 = (↑n19.toNat : Int)
      refine ⟨by first | with_reducible rfl | rfl, ?_⟩ -- z17 = z17
      refine ⟨?_, ?_⟩
      · -- left
        refine ⟨by show n19.toNat ≤ b.length; omega, ?_⟩ -- n19.toNat ≤ b.length
        have h5 : z17 = stf (List.take n19.toNat b) := by
          have bx : n9 = ((b.getD v_7.fst 0).toNat : Int) := by rw [q9, Int.toNat_natCast]
          have A := sub32 bx c3 q14
          have Z : z12 = v_7.snd ++ [125] := by rw [qz12, List.take_of_length_le (Nat.le_refl _)]; rfl
          rw [show n19.toNat = v_7.fst + 1 by omega, stf_step (by omega), if_pos A.2, ← h1.2.1, qz17, Z, A.1, List.take_of_length_le (by simp)]
          simp
        refine ⟨h5, ?_⟩
        refine ⟨by show z17.length ≤ (2 : Nat) * n19.toNat; omega, ?_⟩ -- z17.length ≤ (2 : Nat) * n19.toNat
        exact by show b.length ≤ (1000000 : Nat); assumption -- b.length ≤ (1000000 : Nat)
      exact by show b.length - n19.toNat < b.length - v_7.fst; omega -- b.length - n19.toNat < b.length - v_7.fst
    · -- no
      simp at c3 -- ¬n9 = (125 : Int) ∧ ¬n9 = (126 : Int)
      refine ⟨by first | omega | (dsimp only; omega), ?_⟩ -- (v_7.snd.length + (1 : Nat)) * (1 : Nat) ≤ (140737488355328 : Nat)
      intro z22
      intro qz22 -- z22 = List.take v_7.snd.length v_7.snd ++ List.take (1 : Nat) (List.drop (0 : Nat) [UInt8.ofNat n9.toNat])
      intro n24
      intro q24 -- n24 = IntKind.i64.wrap ((↑v_7.fst : Int) + (1 : Int))
      rw [IntKind.wrap_i64] at q24
      intro ⟨l24, u24⟩ -- (-9223372036854775808 : Int) ≤ n24 ∧ n24 ≤ (9223372036854775807 : Int)
      refine ⟨(n24.toNat, z22), ?_⟩
      refine ⟨by first | with_reducible rfl | rfl, ?_⟩ -- (0 : Nat) = (0 : Nat)
      have h6 : v_7.snd.length + (1 : Nat) = z22.length := by
        rw [qz22]; simp
      refine ⟨h6, ?_⟩
      refine ⟨by first | with_reducible rfl | rfl, ?_⟩ -- b = b
      refine ⟨by first | with_reducible rfl | rfl, ?_⟩ -- (↑b.length : Int) = (↑b.length : Int)
      refine ⟨by show n24 = (↑n24.toNat : Int); omega, ?_⟩ -- n24 = (↑n24.toNat : Int)
      refine ⟨by first | with_reducible rfl | rfl, ?_⟩ -- z22 = z22
      refine ⟨?_, ?_⟩
      · -- left
        refine ⟨by show n24.toNat ≤ b.length; omega, ?_⟩ -- n24.toNat ≤ b.length
        have h7 : z22 = stf (List.take n24.toNat b) := by
          have bx : n9 = ((b.getD v_7.fst 0).toNat : Int) := by rw [q9, Int.toNat_natCast]
          rw [show n24.toNat = v_7.fst + 1 by omega, stf_step (by omega), if_neg (notE bx c3), ← h1.2.1, qz22, bx, Int.toNat_natCast, UInt8.ofNat_toNat]
          simp
        refine ⟨h7, ?_⟩
        refine ⟨by show z22.length ≤ (2 : Nat) * n24.toNat; omega, ?_⟩ -- z22.length ≤ (2 : Nat) * n24.toNat
        exact by show b.length ≤ (1000000 : Nat); assumption -- b.length ≤ (1000000 : Nat)
      exact by show b.length - n24.toNat < b.length - v_7.fst; omega -- b.length - n24.toNat < b.length - v_7.fst
  · -- no
    -- k (AV.row (0 : Nat) (0 : Nat) (0 : Nat) v_7.snd.length) [] [Blk.row (0 : Nat) v_7.snd]
    exact hk _ _ (by rw [h1.2.1, List.take_of_length_le (by omega)]) rfl

theorem stuff_ok : Holds Try.prog 18 stuffS := by
  refine fn_sound (env := mkEnv T0) (tab_ok T0_ok) Try.func18 Try.call18 fun args k h => ?_
  match args, h with
  | [.sl 0 b], h => exact ⟨by kernel_rfl, stuffLoops b, fun _ _ => none, .cast (by kernel_rfl) (stuff_vc b h.1 k h.2)⟩
set_option maxHeartbeats 2000000 in
theorem bare_vc (b : List UInt8) (hx : b.length ≤ (1000000 : Nat)) (k : AV → List (Option Blk) → List Blk → Prop) (hk : (bare b = none → k (AV.tup [AV.nilsl, AV.int IntKind.i64 (8 : Int)]) [] []) ∧ ∀ (o : List UInt8) (n : Nat), bare b = some o → o.length = n → k (AV.tup [AV.row (0 : Nat) (0 : Nat) (0 : Nat) n, AV.int IntKind.i64 (0 : Int)]) [] [Blk.row (0 : Nat) o]) :
  ∀ (n1 : Int),
  (n1 = (↑b.length : Int)) →
  ((-9223372036854775808 : Int) ≤ n1 ∧ n1 ≤ (9223372036854775807 : Int)) →
  (
   ((0 : Int) ≤ (0 : Int)) ∧
   ((0 : Int) ≤ n1) ∧
   (n1 * (↑(1 : Nat) : Int) ≤ (140737488355328 : Int))) ∧
  ∀ (n4 : Int),
  (n4 = (↑b.length : Int)) →
  ((-9223372036854775808 : Int) ≤ n4 ∧ n4 ≤ (9223372036854775807 : Int)) →
  (
   ∃ (v : Nat × Bool × List UInt8),
   ((0 : Nat) = (0 : Nat)) ∧
   (Int.toNat (0 : Int) = v.snd.snd.length) ∧
   (false = v.snd.fst) ∧
   (b = b) ∧
   (n4 = (↑b.length : Int)) ∧
   ((0 : Int) = (↑v.fst : Int)) ∧
   (List.replicate (Int.toNat (0 : Int)) (UInt8.ofNat (Int.toNat (0 : Int))) = v.snd.snd) ∧
   (v.fst ≤ b.length) ∧
   (bfold (List.take v.fst b) = some (v.snd.fst, v.snd.snd)) ∧
   (v.snd.snd.length ≤ v.fst) ∧
   (b.length ≤ (1000000 : Nat))) ∧
  ∀ (v_7 : Nat × Bool × List UInt8),
  (v_7.fst ≤ b.length ∧ bfold (List.take v_7.fst b) = some (v_7.snd.fst, v_7.snd.snd) ∧ v_7.snd.snd.length ≤ v_7.fst ∧ b.length ≤ (1000000 : Nat)) →
  br (decide ((↑v_7.fst : Int) < (↑b.length : Int)))
   (((0 : Int) ≤ (↑v_7.fst : Int)) ∧
    ((↑v_7.fst : Int) < (↑b.length : Int)) ∧
    ∀ (n9 : Int),
    (n9 = (↑(b.getD (↑v_7.fst : Int).toNat (0 : UInt8)).toNat : Int)) →
    ((0 : Int) ≤ n9 ∧ n9 ≤ (255 : Int)) →
    br (bif bif v_7.snd.fst then n9 != (93 : Int) else false then n9 != (94 : Int) else false)
     (br (bif bif v_7.snd.fst then n9 != (93 : Int) else false then n9 != (94 : Int) else false)
       ((k (AV.tup [AV.nilsl, AV.int IntKind.i64 (8 : Int)]) [] []))
       (br (v_7.snd.fst)
         (∀ (n12 : Int),
          (n12 = IntKind.u8.wrap (n9 + (32 : Int))) →
          ((0 : Int) ≤ n12 ∧ n12 ≤ (255 : Int)) →
          ((v_7.snd.snd.length + (1 : Nat)) * (1 : Nat) ≤ (140737488355328 : Nat)) ∧
          ∀ (z15 : List UInt8),
          (z15 = List.take v_7.snd.snd.length v_7.snd.snd ++ List.take (1 : Nat) (List.drop (0 : Nat) [UInt8.ofNat n12.toNat])) →
          ∀ (n17 : Int),
          (n17 = IntKind.i64.wrap ((↑v_7.fst : Int) + (1 : Int))) →
          ((-9223372036854775808 : Int) ≤ n17 ∧ n17 ≤ (9223372036854775807 : Int)) →
          ∃ (v' : Nat × Bool × List UInt8),
          ((0 : Nat) = (0 : Nat)) ∧
          (v_7.snd.snd.length + (1 : Nat) = v'.snd.snd.length) ∧
          (false = v'.snd.fst) ∧
          (b = b) ∧
          ((↑b.length : Int) = (↑b.length : Int)) ∧
          (n17 = (↑v'.fst : Int)) ∧
          (z15 = v'.snd.snd) ∧
          (
           (v'.fst ≤ b.length) ∧
           (bfold (List.take v'.fst b) = some (v'.snd.fst, v'.snd.snd)) ∧
           (v'.snd.snd.length ≤ v'.fst) ∧
           (b.length ≤ (1000000 : Nat))) ∧
          (b.length - v'.fst < b.length - v_7.fst))
         (br (n9 == (125 : Int))
           (∀ (n20 : Int),
            (n20 = IntKind.i64.wrap ((↑v_7.fst : Int) + (1 : Int))) →
            ((-9223372036854775808 : Int) ≤ n20 ∧ n20 ≤ (9223372036854775807 : Int)) →
            ∃ (v' : Nat × Bool × List UInt8),
            ((0 : Nat) = (0 : Nat)) ∧
            (v_7.snd.snd.length = v'.snd.snd.length) ∧
            (true = v'.snd.fst) ∧
            (b = b) ∧
            ((↑b.length : Int) = (↑b.length : Int)) ∧
            (n20 = (↑v'.fst : Int)) ∧
            (v_7.snd.snd = v'.snd.snd) ∧
            (
             (v'.fst ≤ b.length) ∧
             (bfold (List.take v'.fst b) = some (v'.snd.fst, v'.snd.snd)) ∧
             (v'.snd.snd.length ≤ v'.fst) ∧
             (b.length ≤ (1000000 : Nat))) ∧
            (b.length - v'.fst < b.length - v_7.fst))
           (((v_7.snd.snd.length + (1 : Nat)) * (1 : Nat) ≤ (140737488355328 : Nat)) ∧
            ∀ (z23 : List UInt8),
            (z23 = List.take v_7.snd.snd.length v_7.snd.snd ++ List.take (1 : Nat) (List.drop (0 : Nat) [UInt8.ofNat n9.toNat])) →
            ∀ (n25 : Int),
            (n25 = IntKind.i64.wrap ((↑v_7.fst : Int) + (1 : Int))) →
            ((-9223372036854775808 : Int) ≤ n25 ∧ n25 ≤ (9223372036854775807 : Int)) →
            ∃ (v' : Nat × Bool × List UInt8),
            ((0 : Nat) = (0 : Nat)) ∧
            (v_7.snd.snd.length + (1 : Nat) = v'.snd.snd.length) ∧
            (v_7.snd.fst = v'.snd.fst) ∧
            (b = b) ∧
            ((↑b.length : Int) = (↑b.length : Int)) ∧
            (n25 = (↑v'.fst : Int)) ∧
            (z23 = v'.snd.snd) ∧
            (
             (v'.fst ≤ b.length) ∧
             (bfold (List.take v'.fst b) = some (v'.snd.fst, v'.snd.snd)) ∧
             (v'.snd.snd.length ≤ v'.fst) ∧
             (b.length ≤ (1000000 : Nat))) ∧
            (b.length - v'.fst < b.length - v_7.fst)))))
     (br (n9 == (126 : Int))
       ((k (AV.tup [AV.nilsl, AV.int IntKind.i64 (8 : Int)]) [] []))
       (br (v_7.snd.fst)
         (∀ (n28 : Int),
          (n28 = IntKind.u8.wrap (n9 + (32 : Int))) →
          ((0 : Int) ≤ n28 ∧ n28 ≤ (255 : Int)) →
          ((v_7.snd.snd.length + (1 : Nat)) * (1 : Nat) ≤ (140737488355328 : Nat)) ∧
          ∀ (z31 : List UInt8),
          (z31 = List.take v_7.snd.snd.length v_7.snd.snd ++ List.take (1 : Nat) (List.drop (0 : Nat) [UInt8.ofNat n28.toNat])) →
          ∀ (n33 : Int),
          (n33 = IntKind.i64.wrap ((↑v_7.fst : Int) + (1 : Int))) →
          ((-9223372036854775808 : Int) ≤ n33 ∧ n33 ≤ (9223372036854775807 : Int)) →
          ∃ (v' : Nat × Bool × List UInt8),
          ((0 : Nat) = (0 : Nat)) ∧
          (v_7.snd.snd.length + (1 : Nat) = v'.snd.snd.length) ∧
          (false = v'.snd.fst) ∧
          (b = b) ∧
          ((↑b.length : Int) = (↑b.length : Int)) ∧
          (n33 = (↑v'.fst : Int)) ∧
          (z31 = v'.snd.snd) ∧
          (
           (v'.fst ≤ b.length) ∧
           (bfold (List.take v'.fst b) = some (v'.snd.fst, v'.snd.snd)) ∧
           (v'.snd.snd.length ≤ v'.fst) ∧
           (b.length ≤ (1000000 : Nat))) ∧
          (b.length - v'.fst < b.length - v_7.fst))
         (br (n9 == (125 : Int))
           (∀ (n36 : Int),
            (n36 = IntKind.i64.wrap ((↑v_7.fst : Int) + (1 : Int))) →
            ((-9223372036854775808 : Int) ≤ n36 ∧ n36 ≤ (9223372036854775807 : Int)) →
            ∃ (v' : Nat × Bool × List UInt8),
            ((0 : Nat) = (0 : Nat)) ∧
            (v_7.snd.snd.length = v'.snd.snd.length) ∧
            (true = v'.snd.fst) ∧
            (b = b) ∧
            ((↑b.length : Int) = (↑b.length : Int)) ∧
            (n36 = (↑v'.fst : Int)) ∧
            (v_7.snd.snd = v'.snd.snd) ∧
            (
             (v'.fst ≤ b.length) ∧
             (bfold (List.take v'.fst b) = some (v'.snd.fst, v'.snd.snd)) ∧
             (v'.snd.snd.length ≤ v'.fst) ∧
             (b.length ≤ (1000000 : Nat))) ∧
            (b.length - v'.fst < b.length - v_7.fst))
           (((v_7.snd.snd.length + (1 : Nat)) * (1 : Nat) ≤ (140737488355328 : Nat)) ∧
            ∀ (z39 : List UInt8),
            (z39 = List.take v_7.snd.snd.length v_7.snd.snd ++ List.take (1 : Nat) (List.drop (0 : Nat) [UInt8.ofNat n9.toNat])) →
            ∀ (n41 : Int),
            (n41 = IntKind.i64.wrap ((↑v_7.fst : Int) + (1 : Int))) →
            ((-9223372036854775808 : Int) ≤ n41 ∧ n41 ≤ (9223372036854775807 : Int)) →
            ∃ (v' : Nat × Bool × List UInt8),
            ((0 : Nat) = (0 : Nat)) ∧
            (v_7.snd.snd.length + (1 : Nat) = v'.snd.snd.length) ∧
            (v_7.snd.fst = v'.snd.fst) ∧
            (b = b) ∧
            ((↑b.length : Int) = (↑b.length : Int)) ∧
            (n41 = (↑v'.fst : Int)) ∧
            (z39 = v'.snd.snd) ∧
            (
             (v'.fst ≤ b.length) ∧
             (bfold (List.take v'.fst b) = some (v'.snd.fst, v'.snd.snd)) ∧
             (v'.snd.snd.length ≤ v'.fst) ∧
             (b.length ≤ (1000000 : Nat))) ∧
            (b.length - v'.fst < b.length - v_7.fst))))))
   (br (v_7.snd.fst)
     ((k (AV.tup [AV.nilsl, AV.int IntKind.i64 (8 : Int)]) [] []))
     ((k (AV.tup [AV.row (0 : Nat) (0 : Nat) (0 : Nat) v_7.snd.snd.length, AV.int IntKind.i64 (0 : Int)]) [] [Blk.row (0 : Nat) v_7.snd.snd]))) := by
  intro n1
  intro q1 -- n1 = (↑b.length : Int)
  intro ⟨l1, u1⟩ -- (-9223372036854775808 : Int) ≤ n1 ∧ n1 ≤ (9223372036854775807 : Int)
  refine ⟨?_, ?_⟩
  · -- left
    refine ⟨by first | omega | (dsimp only; omega), ?_⟩ -- (0 : Int) ≤ (0 : Int)
    refine ⟨by first | omega | (dsimp only; omega), ?_⟩ -- (0 : Int) ≤ n1
    exact by omega -- n1 * (↑(1 : Nat) : Int) ≤ (140737488355328 : Int)
  intro n4
  intro q4 -- n4 = (↑b.length : Int)
  intro ⟨l4, u4⟩ -- (-9223372036854775808 : Int) ≤ n4 ∧ n4 ≤ (9223372036854775807 : Int)
  refine ⟨?_, ?_⟩
  · -- left
    refine ⟨(Int.toNat (0 : Int), false, List.replicate (Int.toNat (0 : Int)) (UInt8.ofNat (Int.toNat (0 : Int)))), ?_⟩
    refine ⟨by first | with_reducible rfl | rfl, ?_⟩ -- (0 : Nat) = (0 : Nat)
    refine ⟨by show Int.toNat (0 : Int) = (List.replicate (Int.toNat (0 : Int)) (UInt8.ofNat (Int.toNat (0 : Int)))).length; decide, ?_⟩ -- Int.toNat (0 : Int) = (List.replicate (Int.toNat (0 : Int)) (UInt8.ofNat (Int.toNat (0 : Int)))).length
    refine ⟨by first | with_reducible rfl | rfl, ?_⟩ -- false = false
    refine ⟨by first | with_reducible rfl | rfl, ?_⟩ -- b = b
    refine ⟨by show n4 = (↑b.length : Int); assumption, ?_⟩ -- n4 = (↑b.length : Int)
    refine ⟨by show (0 : Int) = (↑(Int.toNat (0 : Int)) : Int); omega, ?_⟩ -- (0 : Int) = (↑(Int.toNat (0 : Int)) : Int)
    refine ⟨by first | with_reducible rfl | rfl, ?_⟩ -- List.replicate (Int.toNat (0 : Int)) (UInt8.ofNat (Int.toNat (0 : Int))) = List.replicate (Int.toNat (0 : Int)) (UInt8.ofNat (Int.toNat (0 : Int)))
    refine ⟨by show Int.toNat (0 : Int) ≤ b.length; omega, ?_⟩ -- Int.toNat (0 : Int) ≤ b.length
    refine ⟨by rfl, ?_⟩ -- bfold (List.take (Int.toNat (0 : Int)) b) = some (false, List.replicate (Int.toNat (0 : Int)) (UInt8.ofNat (Int.toNat (0 : Int))))
    refine ⟨by show (List.replicate (Int.toNat (0 : Int)) (UInt8.ofNat (Int.toNat (0 : Int)))).length ≤ Int.toNat (0 : Int); decide, ?_⟩ -- (List.replicate (Int.toNat (0 : Int)) (UInt8.ofNat (Int.toNat (0 : Int)))).length ≤ Int.toNat (0 : Int)
    exact by show b.length ≤ (1000000 : Nat); assumption -- b.length ≤ (1000000 : Nat)
  intro v_7
  intro h1 -- v_7.fst ≤ b.length ∧ bfold (List.take v_7.fst b) = some (v_7.snd.fst, v_7.snd.snd) ∧ v_7.snd.snd.length ≤ v_7.fst ∧ b.length ≤ (1000000 : Nat)
  refine brd (fun c2 => ?_) (fun c2 => ?_) -- decide ((↑v_7.fst : Int) < (↑b.length : Int))
  · -- yes
    refine ⟨by first | omega | (dsimp only; omega), ?_⟩ -- (0 : Int) ≤ (↑v_7.fst : Int)
    refine ⟨by assumption, ?_⟩ -- (↑v_7.fst : Int) < (↑b.length : Int)
    intro n9
    intro q9 -- n9 = (↑(b.getD (↑v_7.fst : Int).toNat (0 : UInt8)).toNat : Int)
    intro ⟨l9, u9⟩ -- (0 : Int) ≤ n9 ∧ n9 ≤ (255 : Int)
    refine br_intro (fun c3 => ?_) (fun c3 => ?_) -- bif bif v_7.snd.fst then n9 != (93 : Int) else false then n9 != (94 : Int) else false
    · -- yes
      simp at c3 -- (v_7.snd.fst = true ∧ ¬n9 = (93 : Int)) ∧ ¬n9 = (94 : Int)
      refine br_intro (fun c4 => ?_) (fun c4 => ?_) -- bif bif v_7.snd.fst then n9 != (93 : Int) else false then n9 != (94 : Int) else false
      · -- yes
        simp at c4 -- (v_7.snd.fst = true ∧ ¬n9 = (93 : Int)) ∧ ¬n9 = (94 : Int)
        -- k (AV.tup [AV.nilsl, AV.int IntKind.i64 (8 : Int)]) [] []
        have bx : n9 = ((b.getD v_7.fst 0).toNat : Int) := by rw [q9, Int.toNat_natCast]
        exact hk.1 (bare_none (by omega) h1.2.1 (bst_bad bx (.inl c3)))
      · -- no
        simp at c4 -- v_7.snd.fst = true → ¬n9 = (93 : Int) → n9 = (94 : Int)
        refine br_intro (fun c5 => ?_) (fun c5 => ?_) -- v_7.snd.fst
        · -- yes
          intro n12
          intro q12 -- n12 = IntKind.u8.wrap (n9 + (32 : Int))
          rw [IntKind.wrap_u8] at q12
          intro ⟨l12, u12⟩ -- (0 : Int) ≤ n12 ∧ n12 ≤ (255 : Int)
          refine ⟨by first | omega | (dsimp only; omega), ?_⟩ -- (v_7.snd.snd.length + (1 : Nat)) * (1 : Nat) ≤ (140737488355328 : Nat)
          intro z15
          intro qz15 -- z15 = List.take v_7.snd.snd.length v_7.snd.snd ++ List.take (1 : Nat) (List.drop (0 : Nat) [UInt8.ofNat n12.toNat])
          intro n17
          intro q17 -- n17 = IntKind.i64.wrap ((↑v_7.fst : Int) + (1 : Int))
          rw [IntKind.wrap_i64] at q17
          intro ⟨l17, u17⟩ -- (-9223372036854775808 : Int) ≤ n17 ∧ n17 ≤ (9223372036854775807 : Int)
          refine ⟨(n17.toNat, false, z15), ?_⟩
          refine ⟨by first | with_reducible rfl | rfl, ?_⟩ -- (0 : Nat) = (0 : Nat)
          have h6 : v_7.snd.snd.length + (1 : Nat) = z15.length := by
            exact absurd (c4 c3.1.1 c3.1.2) c3.2
          refine ⟨h6, ?_⟩
          refine ⟨by first | with_reducible rfl | rfl, ?_⟩ -- false = false
          refine ⟨by first | with_reducible rfl | rfl, ?_⟩ -- b = b
          refine ⟨by first | with_reducible rfl | rfl, ?_⟩ -- (↑b.length : Int) = (↑b.length : Int)
          refine ⟨by show n17 = (↑n17.toNat : Int); omega, ?_⟩ -- n17 = (↑n17.toNat : Int)
          refine ⟨by first | with_reducible rfl | rfl, ?_⟩ -- z15 = z15
          refine ⟨?_, ?_⟩
          · -- left
            refine ⟨by show n17.toNat ≤ b.length; omega, ?_⟩ -- n17.toNat ≤ b.length
            have h7 : bfold (List.take n17.toNat b) = some (false, z15) := by
              exact absurd (c4 c3.1.1 c3.1.2) c3.2
            refine ⟨h7, ?_⟩
            refine ⟨by show z15.length ≤ n17.toNat; omega, ?_⟩ -- z15.length ≤ n17.toNat
            exact by show b.length ≤ (1000000 : Nat); assumption -- b.length ≤ (1000000 : Nat)
          exact by show b.length - n17.toNat < b.length - v_7.fst; omega -- b.length - n17.toNat < b.length - v_7.fst
        · -- no
          refine br_intro (fun c8 => ?_) (fun c8 => ?_) -- n9 == (125 : Int)
          · -- yes
            simp at c8 -- n9 = (125 : Int)
            intro n20
            intro q20 -- n20 = IntKind.i64.wrap ((↑v_7.fst : Int) + (1 : Int))
            rw [IntKind.wrap_i64] at q20
            intro ⟨l20, u20⟩ -- (-9223372036854775808 : Int) ≤ n20 ∧ n20 ≤ (9223372036854775807 : Int)
            refine ⟨(n20.toNat, true, v_7.snd.snd), ?_⟩
            refine ⟨by first | with_reducible rfl | rfl, ?_⟩ -- (0 : Nat) = (0 : Nat)
            refine ⟨by first | with_reducible rfl | rfl, ?_⟩ -- v_7.snd.snd.length = v_7.snd.snd.length
            refine ⟨by first | with_reducible rfl | rfl, ?_⟩ -- true = true
            refine ⟨by first | with_reducible rfl | rfl, ?_⟩ -- b = b
            refine ⟨by first | with_reducible rfl | rfl, ?_⟩ -- (↑b.length : Int) = (↑b.length : Int)
            refine ⟨by show n20 = (↑n20.toNat : Int); omega, ?_⟩ -- n20 = (↑n20.toNat : Int)
            refine ⟨by first | with_reducible rfl | rfl, ?_⟩ -- v_7.snd.snd = v_7.snd.snd
            refine ⟨?_, ?_⟩
            · -- left
              refine ⟨by show n20.toNat ≤ b.length; omega, ?_⟩ -- n20.toNat ≤ b.length
              have h9 : bfold (List.take n20.toNat b) = some (true, v_7.snd.snd) := by
                exact absurd (c4 c3.1.1 c3.1.2) c3.2
              refine ⟨h9, ?_⟩
              refine ⟨by show v_7.snd.snd.length ≤ n20.toNat; omega, ?_⟩ -- v_7.snd.snd.length ≤ n20.toNat
              exact by show b.length ≤ (1000000 : Nat); assumption -- b.length ≤ (1000000 : Nat)
            exact by show b.length - n20.toNat < b.length - v_7.fst; omega -- b.length - n20.toNat < b.length - v_7.fst
          · -- no
            simp at c8 -- ¬n9 = (125 : Int)
            refine ⟨by first | omega | (dsimp only; omega), ?_⟩ -- (v_7.snd.snd.length + (1 : Nat)) * (1 : Nat) ≤ (140737488355328 : Nat)
            intro z23
            intro qz23 -- z23 = List.take v_7.snd.snd.length v_7.snd.snd ++ List.take (1 : Nat) (List.drop (0 : Nat) [UInt8.ofNat n9.toNat])
            intro n25
            intro q25 -- n25 = IntKind.i64.wrap ((↑v_7.fst : Int) + (1 : Int))
            rw [IntKind.wrap_i64] at q25
            intro ⟨l25, u25⟩ -- (-9223372036854775808 : Int) ≤ n25 ∧ n25 ≤ (9223372036854775807 : Int)
            refine ⟨(n25.toNat, v_7.snd.fst, z23), ?_⟩
            refine ⟨by first | with_reducible rfl | rfl, ?_⟩ -- (0 : Nat) = (0 : Nat)
            have h10 : v_7.snd.snd.length + (1 : Nat) = z23.length := by
              exact absurd (c4 c3.1.1 c3.1.2) c3.2
            refine ⟨h10, ?_⟩
            refine ⟨by first | with_reducible rfl | rfl, ?_⟩ -- v_7.snd.fst = v_7.snd.fst
            refine ⟨by first | with_reducible rfl | rfl, ?_⟩ -- b = b
            refine ⟨by first | with_reducible rfl | rfl, ?_⟩ -- (↑b.length : Int) = (↑b.length : Int)
            refine ⟨by show n25 = (↑n25.toNat : Int); omega, ?_⟩ -- n25 = (↑n25.toNat : Int)
            refine ⟨by first | with_reducible rfl | rfl, ?_⟩ -- z23 = z23
            refine ⟨?_, ?_⟩
            · -- left
              refine ⟨by show n25.toNat ≤ b.length; omega, ?_⟩ -- n25.toNat ≤ b.length
              have h11 : bfold (List.take n25.toNat b) = some (v_7.snd.fst, z23) := by
                exact absurd (c4 c3.1.1 c3.1.2) c3.2
              refine ⟨h11, ?_⟩
              refine ⟨by show z23.length ≤ n25.toNat; omega, ?_⟩ -- z23.length ≤ n25.toNat
              exact by show b.length ≤ (1000000 : Nat); assumption -- b.length ≤ (1000000 : Nat)
            exact by show b.length - n25.toNat < b.length - v_7.fst; omega -- b.length - n25.toNat < b.length - v_7.fst
    · -- no
      simp at c3 -- v_7.snd.fst = true → ¬n9 = (93 : Int) → n9 = (94 : Int)
      refine br_intro (fun c12 => ?_) (fun c12 => ?_) -- n9 == (126 : Int)
      · -- yes
        simp at c12 -- n9 = (126 : Int)
        -- k (AV.tup [AV.nilsl, AV.int IntKind.i64 (8 : Int)]) [] []
        have bx : n9 = ((b.getD v_7.fst 0).toNat : Int) := by rw [q9, Int.toNat_natCast]
        exact hk.1 (bare_none (by omega) h1.2.1 (bst_bad bx (.inr c12)))
      · -- no
        simp at c12 -- ¬n9 = (126 : Int)
        refine br_intro (fun c13 => ?_) (fun c13 => ?_) -- v_7.snd.fst
        · -- yes
          intro n28
          intro q28 -- n28 = IntKind.u8.wrap (n9 + (32 : Int))
          rw [IntKind.wrap_u8] at q28
          intro ⟨l28, u28⟩ -- (0 : Int) ≤ n28 ∧ n28 ≤ (255 : Int)
          refine ⟨by first | omega | (dsimp only; omega), ?_⟩ -- (v_7.snd.snd.length + (1 : Nat)) * (1 : Nat) ≤ (140737488355328 : Nat)
          intro z31
          intro qz31 -- z31 = List.take v_7.snd.snd.length v_7.snd.snd ++ List.take (1 : Nat) (List.drop (0 : Nat) [UInt8.ofNat n28.toNat])
          intro n33
          intro q33 -- n33 = IntKind.i64.wrap ((↑v_7.fst : Int) + (1 : Int))
          rw [IntKind.wrap_i64] at q33
          intro ⟨l33, u33⟩ -- (-9223372036854775808 : Int) ≤ n33 ∧ n33 ≤ (9223372036854775807 : Int)
          refine ⟨(n33.toNat, false, z31), ?_⟩
          refine ⟨by first | with_reducible rfl | rfl, ?_⟩ -- (0 : Nat) = (0 : Nat)
          have h14 : v_7.snd.snd.length + (1 : Nat) = z31.length := by
            rw [qz31]; simp
          refine ⟨h14, ?_⟩
          refine ⟨by first | with_reducible rfl | rfl, ?_⟩ -- false = false
          refine ⟨by first | with_reducible rfl | rfl, ?_⟩ -- b = b
          refine ⟨by first | with_reducible rfl | rfl, ?_⟩ -- (↑b.length : Int) = (↑b.length : Int)
          refine ⟨by show n33 = (↑n33.toNat : Int); omega, ?_⟩ -- n33 = (↑n33.toNat : Int)
          refine ⟨by first | with_reducible rfl | rfl, ?_⟩ -- z31 = z31
          refine ⟨?_, ?_⟩
          · -- left
            refine ⟨by show n33.toNat ≤ b.length; omega, ?_⟩ -- n33.toNat ≤ b.length
            have h15 : bfold (List.take n33.toNat b) = some (false, z31) := by
              have bx : n9 = ((b.getD v_7.fst 0).toNat : Int) := by rw [q9, Int.toNat_natCast]
              rw [show n33.toNat = v_7.fst + 1 by omega, bfold_step (by omega) h1.2.1, bst_sgn bx c13 c3 q28, qz31]
              simp
            refine ⟨h15, ?_⟩
            refine ⟨by show z31.length ≤ n33.toNat; omega, ?_⟩ -- z31.length ≤ n33.toNat
            exact by show b.length ≤ (1000000 : Nat); assumption -- b.length ≤ (1000000 : Nat)
          exact by show b.length - n33.toNat < b.length - v_7.fst; omega -- b.length - n33.toNat < b.length - v_7.fst
        · -- no
          refine br_intro (fun c16 => ?_) (fun c16 => ?_) -- n9 == (125 : Int)
          · -- yes
            simp at c16 -- n9 = (125 : Int)
            intro n36
            intro q36 -- n36 = IntKind.i64.wrap ((↑v_7.fst : Int) + (1 : Int))
            rw [IntKind.wrap_i64] at q36
            intro ⟨l36, u36⟩ -- (-9223372036854775808 : Int) ≤ n36 ∧ n36 ≤ (9223372036854775807 : Int)
            refine ⟨(n36.toNat, true, v_7.snd.snd), ?_⟩
            refine ⟨by first | with_reducible rfl | rfl, ?_⟩ -- (0 : Nat) = (0 : Nat)
            refine ⟨by first | with_reducible rfl | rfl, ?_⟩ -- v_7.snd.snd.length = v_7.snd.snd.length
            refine ⟨by first | with_reducible rfl | rfl, ?_⟩ -- true = true
            refine ⟨by first | with_reducible rfl | rfl, ?_⟩ -- b = b
            refine ⟨by first | with_reducible rfl | rfl, ?_⟩ -- (↑b.length : Int) = (↑b.length : Int)
            refine ⟨by show n36 = (↑n36.toNat : Int); omega, ?_⟩ -- n36 = (↑n36.toNat : Int)
            refine ⟨by first | with_reducible rfl | rfl, ?_⟩ -- v_7.snd.snd = v_7.snd.snd
            refine ⟨?_, ?_⟩
            · -- left
              refine ⟨by show n36.toNat ≤ b.length; omega, ?_⟩ -- n36.toNat ≤ b.length
              have h17 : bfold (List.take n36.toNat b) = some (true, v_7.snd.snd) := by
                have bx : n9 = ((b.getD v_7.fst 0).toNat : Int) := by rw [q9, Int.toNat_natCast]
                rw [show n36.toNat = v_7.fst + 1 by omega, bfold_step (by omega) h1.2.1, bst_125 bx c13 c16]
              refine ⟨h17, ?_⟩
              refine ⟨by show v_7.snd.snd.length ≤ n36.toNat; omega, ?_⟩ -- v_7.snd.snd.length ≤ n36.toNat
              exact by show b.length ≤ (1000000 : Nat); assumption -- b.length ≤ (1000000 : Nat)
            exact by show b.length - n36.toNat < b.length - v_7.fst; omega -- b.length - n36.toNat < b.length - v_7.fst
          · -- no
            simp at c16 -- ¬n9 = (125 : Int)
            refine ⟨by first | omega | (dsimp only; omega), ?_⟩ -- (v_7.snd.snd.length + (1 : Nat)) * (1 : Nat) ≤ (140737488355328 : Nat)
            intro z39
            intro qz39 -- z39 = List.take v_7.snd.snd.length v_7.snd.snd ++ List.take (1 : Nat) (List.drop (0 : Nat) [UInt8.ofNat n9.toNat])
            intro n41
            intro q41 -- n41 = IntKind.i64.wrap ((↑v_7.fst : Int) + (1 : Int))
            rw [IntKind.wrap_i64] at q41
            intro ⟨l41, u41⟩ -- (-9223372036854775808 : Int) ≤ n41 ∧ n41 ≤ (9223372036854775807 : Int)
            refine ⟨(n41.toNat, v_7.snd.fst, z39), ?_⟩
            refine ⟨by first | with_reducible rfl | rfl, ?_⟩ -- (0 : Nat) = (0 : Nat)
            have h18 : v_7.snd.snd.length + (1 : Nat) = z39.length := by
              rw [qz39]; simp
            refine ⟨h18, ?_⟩
            refine ⟨by first | with_reducible rfl | rfl, ?_⟩ -- v_7.snd.fst = v_7.snd.fst
            refine ⟨by first | with_reducible rfl | rfl, ?_⟩ -- b = b
            refine ⟨by first | with_reducible rfl | rfl, ?_⟩ -- (↑b.length : Int) = (↑b.length : Int)
            refine ⟨by show n41 = (↑n41.toNat : Int); omega, ?_⟩ -- n41 = (↑n41.toNat : Int)
            refine ⟨by first | with_reducible rfl | rfl, ?_⟩ -- z39 = z39
            refine ⟨?_, ?_⟩
            · -- left
              refine ⟨by show n41.toNat ≤ b.length; omega, ?_⟩ -- n41.toNat ≤ b.length
              have h19 : bfold (List.take n41.toNat b) = some (v_7.snd.fst, z39) := by
                have bx : n9 = ((b.getD v_7.fst 0).toNat : Int) := by rw [q9, Int.toNat_natCast]
                rw [show n41.toNat = v_7.fst + 1 by omega, bfold_step (by omega) h1.2.1, bst_oth bx c13 c16 c12, qz39]
                simp
              refine ⟨h19, ?_⟩
              refine ⟨by show z39.length ≤ n41.toNat; omega, ?_⟩ -- z39.length ≤ n41.toNat
              exact by show b.length ≤ (1000000 : Nat); assumption -- b.length ≤ (1000000 : Nat)
            exact by show b.length - n41.toNat < b.length - v_7.fst; omega -- b.length - n41.toNat < b.length - v_7.fst
  · -- no
    refine br_intro (fun c20 => ?_) (fun c20 => ?_) -- v_7.snd.fst
    · -- yes
      -- k (AV.tup [AV.nilsl, AV.int IntKind.i64 (8 : Int)]) [] []
      have F : bfold b = some (v_7.snd.fst, v_7.snd.snd) := by
        have e := h1.2.1
        rwa [List.take_of_length_le (by omega)] at e
      exact hk.1 (by unfold bare; rw [F, c20])
    · -- no
      -- k (AV.tup [AV.row (0 : Nat) (0 : Nat) (0 : Nat) v_7.snd.snd.length, AV.int IntKind.i64 (0 : Int)]) [] [Blk.row (0 : Nat) v_7.snd.snd]
      have F : bfold b = some (v_7.snd.fst, v_7.snd.snd) := by
        have e := h1.2.1
        rwa [List.take_of_length_le (by omega)] at e
      exact hk.2 _ _ (by unfold bare; rw [F, c20]) rfl

theorem bare_ok : Holds Try.prog 16 bareS := by
  refine fn_sound (env := mkEnv T0) (tab_ok T0_ok) Try.func16 Try.call16 fun args k h => ?_
  match args, h with
  | [.sl 0 b], h => exact ⟨by kernel_rfl, bareLoops b, fun _ _ => none, .cast (by kernel_rfl) (bare_vc b h.1 k h.2)⟩
set_option maxHeartbeats 2000000 in
theorem inside_vc (kd : Int) (kd0 : (0 : Int) ≤ kd) (kd1 : kd ≤ (255 : Int)) (sq : Int) (sq0 : (0 : Int) ≤ sq) (sq1 : sq ≤ (4294967295 : Int)) (bo : List UInt8) (k : AV → List (Option Blk) → List Blk → Prop) (hk : ((512 : Nat) < bo.length → k (AV.tup [AV.nilsl, AV.int IntKind.i64 (3 : Int)]) [] []) ∧ (bo.length ≤ (512 : Nat) → ∀ (ys : List UInt8) (n : Nat), ys = ins kd sq bo → ys.length = n → k (AV.tup [AV.row (0 : Nat) (0 : Nat) (0 : Nat) n, AV.int IntKind.i64 (0 : Int)]) [] [Blk.row (0 : Nat) ys])) :
  ∀ (n1 : Int),
  (n1 = (↑bo.length : Int)) →
  ((-9223372036854775808 : Int) ≤ n1 ∧ n1 ≤ (9223372036854775807 : Int)) →
  br (decide (n1 > (512 : Int)))
   ((k (AV.tup [AV.nilsl, AV.int IntKind.i64 (3 : Int)]) [] []))
   (∀ (n4 : Int),
    (n4 = sq) →
    ((0 : Int) ≤ n4 ∧ n4 ≤ (4294967295 : Int)) →
    ∀ (n7 : Int),
    (n7 = IntKind.u64.wrap n4) →
    ((0 : Int) ≤ n7 ∧ n7 ≤ (18446744073709551615 : Int)) →
    (
     ((0 : Int) ≤ n7) ∧
     (n7 ≤ (18446744073709551615 : Int))) ∧
    (
     ((-9223372036854775808 : Int) ≤ (4 : Int)) ∧
     ((4 : Int) ≤ (9223372036854775807 : Int))) ∧
    ∀ (ys_10 : List UInt8),
    ∀ (q_11 : Nat),
    ∀ (e_12 : Int),
    (ys_10 = putF n7 (4 : Int)) →
    (ys_10.length = q_11) →
    (e_12 = putE n7 (4 : Int)) →
    (e_12 = (0 : Int) ∨ e_12 = (2 : Int)) →
    ∀ (n17 : Int),
    (n17 = kd) →
    ((0 : Int) ≤ n17 ∧ n17 ≤ (255 : Int)) →
    (
     (
      (((1 : Nat) + q_11) * (1 : Nat) ≤ (140737488355328 : Nat)) ∧
      ∀ (z20 : List UInt8),
      (z20 = List.take (1 : Nat) [UInt8.ofNat n17.toNat] ++ List.take q_11 (List.drop (0 : Nat) ys_10)) →
      (((1 : Nat) + q_11 + bo.length) * (1 : Nat) ≤ (140737488355328 : Nat)) ∧
      ∀ (z22 : List UInt8),
      (z22 = List.take ((1 : Nat) + q_11) z20 ++ bo) →
      ∀ (n_24 : Int),
      (n_24 = (↑(sumN (List.take ((1 : Nat) + q_11 + bo.length) (List.drop (0 : Nat) z22))) : Int)) →
      ((0 : Int) ≤ n_24 ∧ n_24 ≤ (4294967295 : Int)) →
      ∀ (n27 : Int),
      (n27 = IntKind.u64.wrap n_24) →
      ((0 : Int) ≤ n27 ∧ n27 ≤ (18446744073709551615 : Int)) →
      (
       ((0 : Int) ≤ n27) ∧
       (n27 ≤ (18446744073709551615 : Int))) ∧
      (
       ((-9223372036854775808 : Int) ≤ (4 : Int)) ∧
       ((4 : Int) ≤ (9223372036854775807 : Int))) ∧
      ∀ (ys_30 : List UInt8),
      ∀ (q_31 : Nat),
      ∀ (e_32 : Int),
      (ys_30 = putF n27 (4 : Int)) →
      (ys_30.length = q_31) →
      (e_32 = putE n27 (4 : Int)) →
      (e_32 = (0 : Int) ∨ e_32 = (2 : Int)) →
      (((1 : Nat) + q_11 + bo.length + q_31) * (1 : Nat) ≤ (140737488355328 : Nat)) ∧
      ∀ (z37 : List UInt8),
      (z37 = List.take ((1 : Nat) + q_11 + bo.length) z22 ++ List.take q_31 (List.drop (0 : Nat) ys_30)) →
      (k (AV.tup [AV.row (0 : Nat) (0 : Nat) (0 : Nat) ((1 : Nat) + q_11 + bo.length + q_31), AV.int IntKind.i64 (0 : Int)]) [] [Blk.row (0 : Nat) z37])) ∧
     (
      (((1 : Nat) + q_11) * (1 : Nat) ≤ (140737488355328 : Nat)) ∧
      ∀ (z39 : List UInt8),
      (z39 = List.take (1 : Nat) [UInt8.ofNat n17.toNat] ++ List.take q_11 (List.drop (0 : Nat) ys_10)) →
      (((1 : Nat) + q_11 + bo.length) * (1 : Nat) ≤ (140737488355328 : Nat)) ∧
      ∀ (z41 : List UInt8),
      (z41 = List.take ((1 : Nat) + q_11) z39 ++ bo) →
      ∀ (n_43 : Int),
      (n_43 = (↑(sumN (List.take ((1 : Nat) + q_11 + bo.length) (List.drop (0 : Nat) z41))) : Int)) →
      ((0 : Int) ≤ n_43 ∧ n_43 ≤ (4294967295 : Int)) →
      ∀ (n46 : Int),
      (n46 = IntKind.u64.wrap n_43) →
      ((0 : Int) ≤ n46 ∧ n46 ≤ (18446744073709551615 : Int)) →
      (
       ((0 : Int) ≤ n46) ∧
       (n46 ≤ (18446744073709551615 : Int))) ∧
      (
       ((-9223372036854775808 : Int) ≤ (4 : Int)) ∧
       ((4 : Int) ≤ (9223372036854775807 : Int))) ∧
      ∀ (ys_49 : List UInt8),
      ∀ (q_50 : Nat),
      ∀ (e_51 : Int),
      (ys_49 = putF n46 (4 : Int)) →
      (ys_49.length = q_50) →
      (e_51 = putE n46 (4 : Int)) →
      (e_51 = (0 : Int) ∨ e_51 = (2 : Int)) →
      (((1 : Nat) + q_11 + bo.length + q_50) * (1 : Nat) ≤ (140737488355328 : Nat)) ∧
      ∀ (z56 : List UInt8),
      (z56 = List.take ((1 : Nat) + q_11 + bo.length) z41 ++ List.take q_50 (List.drop (0 : Nat) ys_49)) →
      (k (AV.tup [AV.row (0 : Nat) (0 : Nat) (0 : Nat) ((1 : Nat) + q_11 + bo.length + q_50), AV.int IntKind.i64 (0 : Int)]) [] [Blk.row (0 : Nat) z56])) ∧
     (((1 : Nat) + q_11) * (1 : Nat) ≤ (140737488355328 : Nat)) ∧
     ∀ (z58 : List UInt8),
     (z58 = List.take (1 : Nat) [UInt8.ofNat n17.toNat] ++ List.take q_11 (List.drop (0 : Nat) ys_10)) →
     (((1 : Nat) + q_11 + bo.length) * (1 : Nat) ≤ (140737488355328 : Nat)) ∧
     ∀ (z60 : List UInt8),
     (z60 = List.take ((1 : Nat) + q_11) z58 ++ bo) →
     ∀ (n_62 : Int),
     (n_62 = (↑(sumN (List.take ((1 : Nat) + q_11 + bo.length) (List.drop (0 : Nat) z60))) : Int)) →
     ((0 : Int) ≤ n_62 ∧ n_62 ≤ (4294967295 : Int)) →
     ∀ (n65 : Int),
     (n65 = IntKind.u64.wrap n_62) →
     ((0 : Int) ≤ n65 ∧ n65 ≤ (18446744073709551615 : Int)) →
     (
      ((0 : Int) ≤ n65) ∧
      (n65 ≤ (18446744073709551615 : Int))) ∧
     (
      ((-9223372036854775808 : Int) ≤ (4 : Int)) ∧
      ((4 : Int) ≤ (9223372036854775807 : Int))) ∧
     ∀ (ys_68 : List UInt8),
     ∀ (q_69 : Nat),
     ∀ (e_70 : Int),
     (ys_68 = putF n65 (4 : Int)) →
     (ys_68.length = q_69) →
     (e_70 = putE n65 (4 : Int)) →
     (e_70 = (0 : Int) ∨ e_70 = (2 : Int)) →
     (((1 : Nat) + q_11 + bo.length + q_69) * (1 : Nat) ≤ (140737488355328 : Nat)) ∧
     ∀ (z75 : List UInt8),
     (z75 = List.take ((1 : Nat) + q_11 + bo.length) z60 ++ List.take q_69 (List.drop (0 : Nat) ys_68)) →
     (k (AV.tup [AV.row (0 : Nat) (0 : Nat) (0 : Nat) ((1 : Nat) + q_11 + bo.length + q_69), AV.int IntKind.i64 (0 : Int)]) [] [Blk.row (0 : Nat) z75])) ∧
    (
     (
      (((1 : Nat) + q_11) * (1 : Nat) ≤ (140737488355328 : Nat)) ∧
      ∀ (z77 : List UInt8),
      (z77 = List.take (1 : Nat) [UInt8.ofNat n17.toNat] ++ List.take q_11 (List.drop (0 : Nat) ys_10)) →
      (((1 : Nat) + q_11 + bo.length) * (1 : Nat) ≤ (140737488355328 : Nat)) ∧
      ∀ (z79 : List UInt8),
      (z79 = List.take ((1 : Nat) + q_11) z77 ++ bo) →
      ∀ (n_81 : Int),
      (n_81 = (↑(sumN (List.take ((1 : Nat) + q_11 + bo.length) (List.drop (0 : Nat) z79))) : Int)) →
      ((0 : Int) ≤ n_81 ∧ n_81 ≤ (4294967295 : Int)) →
      ∀ (n84 : Int),
      (n84 = IntKind.u64.wrap n_81) →
      ((0 : Int) ≤ n84 ∧ n84 ≤ (18446744073709551615 : Int)) →
      (
       ((0 : Int) ≤ n84) ∧
       (n84 ≤ (18446744073709551615 : Int))) ∧
      (
       ((-9223372036854775808 : Int) ≤ (4 : Int)) ∧
       ((4 : Int) ≤ (9223372036854775807 : Int))) ∧
      ∀ (ys_87 : List UInt8),
      ∀ (q_88 : Nat),
      ∀ (e_89 : Int),
      (ys_87 = putF n84 (4 : Int)) →
      (ys_87.length = q_88) →
      (e_89 = putE n84 (4 : Int)) →
      (e_89 = (0 : Int) ∨ e_89 = (2 : Int)) →
      (((1 : Nat) + q_11 + bo.length + q_88) * (1 : Nat) ≤ (140737488355328 : Nat)) ∧
      ∀ (z94 : List UInt8),
      (z94 = List.take ((1 : Nat) + q_11 + bo.length) z79 ++ List.take q_88 (List.drop (0 : Nat) ys_87)) →
      (k (AV.tup [AV.row (0 : Nat) (0 : Nat) (0 : Nat) ((1 : Nat) + q_11 + bo.length + q_88), AV.int IntKind.i64 (0 : Int)]) [] [Blk.row (0 : Nat) z94])) ∧
     (((1 : Nat) + q_11) * (1 : Nat) ≤ (140737488355328 : Nat)) ∧
     ∀ (z96 : List UInt8),
     (z96 = List.take (1 : Nat) [UInt8.ofNat n17.toNat] ++ List.take q_11 (List.drop (0 : Nat) ys_10)) →
     (((1 : Nat) + q_11 + bo.length) * (1 : Nat) ≤ (140737488355328 : Nat)) ∧
     ∀ (z98 : List UInt8),
     (z98 = List.take ((1 : Nat) + q_11) z96 ++ bo) →
     ∀ (n_100 : Int),
     (n_100 = (↑(sumN (List.take ((1 : Nat) + q_11 + bo.length) (List.drop (0 : Nat) z98))) : Int)) →
     ((0 : Int) ≤ n_100 ∧ n_100 ≤ (4294967295 : Int)) →
     ∀ (n103 : Int),
     (n103 = IntKind.u64.wrap n_100) →
     ((0 : Int) ≤ n103 ∧ n103 ≤ (18446744073709551615 : Int)) →
     (
      ((0 : Int) ≤ n103) ∧
      (n103 ≤ (18446744073709551615 : Int))) ∧
     (
      ((-9223372036854775808 : Int) ≤ (4 : Int)) ∧
      ((4 : Int) ≤ (9223372036854775807 : Int))) ∧
     ∀ (ys_106 : List UInt8),
     ∀ (q_107 : Nat),
     ∀ (e_108 : Int),
     (ys_106 = putF n103 (4 : Int)) →
     (ys_106.length = q_107) →
     (e_108 = putE n103 (4 : Int)) →
     (e_108 = (0 : Int) ∨ e_108 = (2 : Int)) →
     (((1 : Nat) + q_11 + bo.length + q_107) * (1 : Nat) ≤ (140737488355328 : Nat)) ∧
     ∀ (z113 : List UInt8),
     (z113 = List.take ((1 : Nat) + q_11 + bo.length) z98 ++ List.take q_107 (List.drop (0 : Nat) ys_106)) →
     (k (AV.tup [AV.row (0 : Nat) (0 : Nat) (0 : Nat) ((1 : Nat) + q_11 + bo.length + q_107), AV.int IntKind.i64 (0 : Int)]) [] [Blk.row (0 : Nat) z113])) ∧
    (((1 : Nat) + q_11) * (1 : Nat) ≤ (140737488355328 : Nat)) ∧
    ∀ (z115 : List UInt8),
    (z115 = List.take (1 : Nat) [UInt8.ofNat n17.toNat] ++ List.take q_11 (List.drop (0 : Nat) ys_10)) →
    (((1 : Nat) + q_11 + bo.length) * (1 : Nat) ≤ (140737488355328 : Nat)) ∧
    ∀ (z117 : List UInt8),
    (z117 = List.take ((1 : Nat) + q_11) z115 ++ bo) →
    ∀ (n_119 : Int),
    (n_119 = (↑(sumN (List.take ((1 : Nat) + q_11 + bo.length) (List.drop (0 : Nat) z117))) : Int)) →
    ((0 : Int) ≤ n_119 ∧ n_119 ≤ (4294967295 : Int)) →
    ∀ (n122 : Int),
    (n122 = IntKind.u64.wrap n_119) →
    ((0 : Int) ≤ n122 ∧ n122 ≤ (18446744073709551615 : Int)) →
    (
     ((0 : Int) ≤ n122) ∧
     (n122 ≤ (18446744073709551615 : Int))) ∧
    (
     ((-9223372036854775808 : Int) ≤ (4 : Int)) ∧
     ((4 : Int) ≤ (9223372036854775807 : Int))) ∧
    ∀ (ys_125 : List UInt8),
    ∀ (q_126 : Nat),
    ∀ (e_127 : Int),
    (ys_125 = putF n122 (4 : Int)) →
    (ys_125.length = q_126) →
    (e_127 = putE n122 (4 : Int)) →
    (e_127 = (0 : Int) ∨ e_127 = (2 : Int)) →
    (((1 : Nat) + q_11 + bo.length + q_126) * (1 : Nat) ≤ (140737488355328 : Nat)) ∧
    ∀ (z132 : List UInt8),
    (z132 = List.take ((1 : Nat) + q_11 + bo.length) z117 ++ List.take q_126 (List.drop (0 : Nat) ys_125)) →
    (k (AV.tup [AV.row (0 : Nat) (0 : Nat) (0 : Nat) ((1 : Nat) + q_11 + bo.length + q_126), AV.int IntKind.i64 (0 : Int)]) [] [Blk.row (0 : Nat) z132])) := by
  intro n1
  intro q1 -- n1 = (↑bo.length : Int)
  intro ⟨l1, u1⟩ -- (-9223372036854775808 : Int) ≤ n1 ∧ n1 ≤ (9223372036854775807 : Int)
  refine brd (fun c1 => ?_) (fun c1 => ?_) -- decide (n1 > (512 : Int))
  · -- yes
    -- k (AV.tup [AV.nilsl, AV.int IntKind.i64 (3 : Int)]) [] []
    exact hk.1 (by omega)
  · -- no
    intro n4
    intro q4 -- n4 = sq
    intro ⟨l4, u4⟩ -- (0 : Int) ≤ n4 ∧ n4 ≤ (4294967295 : Int)
    intro n7
    intro q7 -- n7 = IntKind.u64.wrap n4
    rw [IntKind.wrap_u64] at q7
    intro ⟨l7, u7⟩ -- (0 : Int) ≤ n7 ∧ n7 ≤ (18446744073709551615 : Int)
    refine ⟨by exact ⟨by assumption, by assumption⟩, ?_⟩ -- (0 : Int) ≤ n7 ∧ n7 ≤ (18446744073709551615 : Int)
    refine ⟨by first | omega | (dsimp only; omega), ?_⟩ -- (-9223372036854775808 : Int) ≤ (4 : Int) ∧ (4 : Int) ≤ (9223372036854775807 : Int)
    intro ys_10
    intro q_11
    intro e_12
    intro h2 -- ys_10 = putF n7 (4 : Int)
    intro h3 -- ys_10.length = q_11
    intro h4 -- e_12 = putE n7 (4 : Int)
    intro h5 -- e_12 = (0 : Int) ∨ e_12 = (2 : Int)
    intro n17
    intro q17 -- n17 = kd
    intro ⟨l17, u17⟩ -- (0 : Int) ≤ n17 ∧ n17 ≤ (255 : Int)
    refine ⟨?_, ?_⟩
    · -- left
      refine ⟨?_, ?_⟩
      · -- left
        have h6 : ((1 : Nat) + q_11) * (1 : Nat) ≤ (140737488355328 : Nat) := by
          have P1 : ys_10 = putL sq.toNat 4 := by rw [h2, putF4 (by omega) (by omega)]; congr 1; try omega
          have e11 : q_11 = 4 := by rw [← h3, P1, putL_len]
          omega
        refine ⟨h6, ?_⟩
        intro z20
        intro qz20 -- z20 = List.take (1 : Nat) [UInt8.ofNat n17.toNat] ++ List.take q_11 (List.drop (0 : Nat) ys_10)
        have h7 : ((1 : Nat) + q_11 + bo.length) * (1 : Nat) ≤ (140737488355328 : Nat) := by
          have P1 : ys_10 = putL sq.toNat 4 := by rw [h2, putF4 (by omega) (by omega)]; congr 1; try omega
          have e11 : q_11 = 4 := by rw [← h3, P1, putL_len]
          omega
        refine ⟨h7, ?_⟩
        intro z22
        intro qz22 -- z22 = List.take ((1 : Nat) + q_11) z20 ++ bo
        intro n_24
        intro h8 -- n_24 = (↑(sumN (List.take ((1 : Nat) + q_11 + bo.length) (List.drop (0 : Nat) z22))) : Int)
        intro ⟨a9, b9⟩ -- (0 : Int) ≤ n_24 ∧ n_24 ≤ (4294967295 : Int)
        intro n27
        intro q27 -- n27 = IntKind.u64.wrap n_24
        rw [IntKind.wrap_u64] at q27
        intro ⟨l27, u27⟩ -- (0 : Int) ≤ n27 ∧ n27 ≤ (18446744073709551615 : Int)
        refine ⟨by exact ⟨by assumption, by assumption⟩, ?_⟩ -- (0 : Int) ≤ n27 ∧ n27 ≤ (18446744073709551615 : Int)
        refine ⟨by first | omega | (dsimp only; omega), ?_⟩ -- (-9223372036854775808 : Int) ≤ (4 : Int) ∧ (4 : Int) ≤ (9223372036854775807 : Int)
        intro ys_30
        intro q_31
        intro e_32
        intro h10 -- ys_30 = putF n27 (4 : Int)
        intro h11 -- ys_30.length = q_31
        intro h12 -- e_32 = putE n27 (4 : Int)
        intro h13 -- e_32 = (0 : Int) ∨ e_32 = (2 : Int)
        have h14 : ((1 : Nat) + q_11 + bo.length + q_31) * (1 : Nat) ≤ (140737488355328 : Nat) := by
          have P1 : ys_10 = putL sq.toNat 4 := by rw [h2, putF4 (by omega) (by omega)]; congr 1; try omega
          have e11 : q_11 = 4 := by rw [← h3, P1, putL_len]
          have e17 : n17 = kd := by omega
          have C : z22 = core kd sq bo := by
            rw [qz22, qz20, P1, e11, e17]
            rfl
          have lC : (core kd sq bo).length = 5 + bo.length := by unfold core; simp [putL_len]; omega
          have S : n_24 = (sumN (core kd sq bo) : Nat) := by rw [h8, C, e11, List.drop_zero, List.take_of_length_le (by rw [lC]; omega)]
          have P2 : ys_30 = putL (sumN (core kd sq bo)) 4 := by rw [h10, putF4 (by omega) (by omega)]; congr 1; try omega
          have e31 : q_31 = 4 := by rw [← h11, P2, putL_len]
          omega
        refine ⟨h14, ?_⟩
        intro z37
        intro qz37 -- z37 = List.take ((1 : Nat) + q_11 + bo.length) z22 ++ List.take q_31 (List.drop (0 : Nat) ys_30)
        -- k (AV.tup [AV.row (0 : Nat) (0 : Nat) (0 : Nat) ((1 : Nat) + q_11 + bo.length + q_31), AV.int IntKind.i64 (0 : Int)]) [] [Blk.row (0 : Nat) z37]
        have P1 : ys_10 = putL sq.toNat 4 := by rw [h2, putF4 (by omega) (by omega)]; congr 1; try omega
        have e11 : q_11 = 4 := by rw [← h3, P1, putL_len]
        have e17 : n17 = kd := by omega
        have C : z22 = core kd sq bo := by
          rw [qz22, qz20, P1, e11, e17]
          rfl
        have lC : (core kd sq bo).length = 5 + bo.length := by unfold core; simp [putL_len]; omega
        have S : n_24 = (sumN (core kd sq bo) : Nat) := by rw [h8, C, e11, List.drop_zero, List.take_of_length_le (by rw [lC]; omega)]
        have P2 : ys_30 = putL (sumN (core kd sq bo)) 4 := by rw [h10, putF4 (by omega) (by omega)]; congr 1; try omega
        have e31 : q_31 = 4 := by rw [← h11, P2, putL_len]
        have Z : z37 = ins kd sq bo := by
          rw [qz37, C, P2, e11, e31, List.take_of_length_le (by rw [lC]; omega)]
          unfold ins
          congr 1
        exact hk.2 (by omega) _ _ Z (by rw [Z, e11, e31]; unfold ins; rw [List.length_append, lC, putL_len]; try omega)
      refine ⟨?_, ?_⟩
      · -- left
        have h15 : ((1 : Nat) + q_11) * (1 : Nat) ≤ (140737488355328 : Nat) := by
          have P1 : ys_10 = putL sq.toNat 4 := by rw [h2, putF4 (by omega) (by omega)]; congr 1; try omega
          have e11 : q_11 = 4 := by rw [← h3, P1, putL_len]
          omega
        refine ⟨h15, ?_⟩
        intro z39
        intro qz39 -- z39 = List.take (1 : Nat) [UInt8.ofNat n17.toNat] ++ List.take q_11 (List.drop (0 : Nat) ys_10)
        have h16 : ((1 : Nat) + q_11 + bo.length) * (1 : Nat) ≤ (140737488355328 : Nat) := by
          have P1 : ys_10 = putL sq.toNat 4 := by rw [h2, putF4 (by omega) (by omega)]; congr 1; try omega
          have e11 : q_11 = 4 := by rw [← h3, P1, putL_len]
          omega
        refine ⟨h16, ?_⟩
        intro z41
        intro qz41 -- z41 = List.take ((1 : Nat) + q_11) z39 ++ bo
        intro n_43
        intro h17 -- n_43 = (↑(sumN (List.take ((1 : Nat) + q_11 + bo.length) (List.drop (0 : Nat) z41))) : Int)
        intro ⟨a18, b18⟩ -- (0 : Int) ≤ n_43 ∧ n_43 ≤ (4294967295 : Int)
        intro n46
        intro q46 -- n46 = IntKind.u64.wrap n_43
        rw [IntKind.wrap_u64] at q46
        intro ⟨l46, u46⟩ -- (0 : Int) ≤ n46 ∧ n46 ≤ (18446744073709551615 : Int)
        refine ⟨by exact ⟨by assumption, by assumption⟩, ?_⟩ -- (0 : Int) ≤ n46 ∧ n46 ≤ (18446744073709551615 : Int)
        refine ⟨by first | omega | (dsimp only; omega), ?_⟩ -- (-9223372036854775808 : Int) ≤ (4 : Int) ∧ (4 : Int) ≤ (9223372036854775807 : Int)
        intro ys_49
        intro q_50
        intro e_51
        intro h19 -- ys_49 = putF n46 (4 : Int)
        intro h20 -- ys_49.length = q_50
        intro h21 -- e_51 = putE n46 (4 : Int)
        intro h22 -- e_51 = (0 : Int) ∨ e_51 = (2 : Int)
        have h23 : ((1 : Nat) + q_11 + bo.length + q_50) * (1 : Nat) ≤ (140737488355328 : Nat) := by
          have P1 : ys_10 = putL sq.toNat 4 := by rw [h2, putF4 (by omega) (by omega)]; congr 1; try omega
          have e11 : q_11 = 4 := by rw [← h3, P1, putL_len]
          have e17 : n17 = kd := by omega
          have C : z41 = core kd sq bo := by
            rw [qz41, qz39, P1, e11, e17]
            rfl
          have lC : (core kd sq bo).length = 5 + bo.length := by unfold core; simp [putL_len]; omega
          have S : n_43 = (sumN (core kd sq bo) : Nat) := by rw [h17, C, e11, List.drop_zero, List.take_of_length_le (by rw [lC]; omega)]
          have P2 : ys_49 = putL (sumN (core kd sq bo)) 4 := by rw [h19, putF4 (by omega) (by omega)]; congr 1; try omega
          have e31 : q_50 = 4 := by rw [← h20, P2, putL_len]
          omega
        refine ⟨h23, ?_⟩
        intro z56
        intro qz56 -- z56 = List.take ((1 : Nat) + q_11 + bo.length) z41 ++ List.take q_50 (List.drop (0 : Nat) ys_49)
        -- k (AV.tup [AV.row (0 : Nat) (0 : Nat) (0 : Nat) ((1 : Nat) + q_11 + bo.length + q_50), AV.int IntKind.i64 (0 : Int)]) [] [Blk.row (0 : Nat) z56]
        have P1 : ys_10 = putL sq.toNat 4 := by rw [h2, putF4 (by omega) (by omega)]; congr 1; try omega
        have e11 : q_11 = 4 := by rw [← h3, P1, putL_len]
        have e17 : n17 = kd := by omega
        have C : z41 = core kd sq bo := by
          rw [qz41, qz39, P1, e11, e17]
          rfl
        have lC : (core kd sq bo).length = 5 + bo.length := by unfold core; simp [putL_len]; omega
        have S : n_43 = (sumN (core kd sq bo) : Nat) := by rw [h17, C, e11, List.drop_zero, List.take_of_length_le (by rw [lC]; omega)]
        have P2 : ys_49 = putL (sumN (core kd sq bo)) 4 := by rw [h19, putF4 (by omega) (by omega)]; congr 1; try omega
        have e31 : q_50 = 4 := by rw [← h20, P2, putL_len]
        have Z : z56 = ins kd sq bo := by
          rw [qz56, C, P2, e11, e31, List.take_of_length_le (by rw [lC]; omega)]
          unfold ins
          congr 1
        exact hk.2 (by omega) _ _ Z (by rw [Z, e11, e31]; unfold ins; rw [List.length_append, lC, putL_len]; try omega)
      have h24 : ((1 : Nat) + q_11) * (1 : Nat) ≤ (140737488355328 : Nat) := by
        have P1 : ys_10 = putL sq.toNat 4 := by rw [h2, putF4 (by omega) (by omega)]; congr 1; try omega
        have e11 : q_11 = 4 := by rw [← h3, P1, putL_len]
        omega
      refine ⟨h24, ?_⟩
      intro z58
      intro qz58 -- z58 = List.take (1 : Nat) [UInt8.ofNat n17.toNat] ++ List.take q_11 (List.drop (0 : Nat) ys_10)
      have h25 : ((1 : Nat) + q_11 + bo.length) * (1 : Nat) ≤ (140737488355328 : Nat) := by
        have P1 : ys_10 = putL sq.toNat 4 := by rw [h2, putF4 (by omega) (by omega)]; congr 1; try omega
        have e11 : q_11 = 4 := by rw [← h3, P1, putL_len]
        omega
      refine ⟨h25, ?_⟩
      intro z60
      intro qz60 -- z60 = List.take ((1 : Nat) + q_11) z58 ++ bo
      intro n_62
      intro h26 -- n_62 = (↑(sumN (List.take ((1 : Nat) + q_11 + bo.length) (List.drop (0 : Nat) z60))) : Int)
      intro ⟨a27, b27⟩ -- (0 : Int) ≤ n_62 ∧ n_62 ≤ (4294967295 : Int)
      intro n65
      intro q65 -- n65 = IntKind.u64.wrap n_62
      rw [IntKind.wrap_u64] at q65
      intro ⟨l65, u65⟩ -- (0 : Int) ≤ n65 ∧ n65 ≤ (18446744073709551615 : Int)
      refine ⟨by exact ⟨by assumption, by assumption⟩, ?_⟩ -- (0 : Int) ≤ n65 ∧ n65 ≤ (18446744073709551615 : Int)
      refine ⟨by first | omega | (dsimp only; omega), ?_⟩ -- (-9223372036854775808 : Int) ≤ (4 : Int) ∧ (4 : Int) ≤ (9223372036854775807 : Int)
      intro ys_68
      intro q_69
      intro e_70
      intro h28 -- ys_68 = putF n65 (4 : Int)
      intro h29 -- ys_68.length = q_69
      intro h30 -- e_70 = putE n65 (4 : Int)
      intro h31 -- e_70 = (0 : Int) ∨ e_70 = (2 : Int)
      have h32 : ((1 : Nat) + q_11 + bo.length + q_69) * (1 : Nat) ≤ (140737488355328 : Nat) := by
        have P1 : ys_10 = putL sq.toNat 4 := by rw [h2, putF4 (by omega) (by omega)]; congr 1; try omega
        have e11 : q_11 = 4 := by rw [← h3, P1, putL_len]
        have e17 : n17 = kd := by omega
        have C : z60 = core kd sq bo := by
          rw [qz60, qz58, P1, e11, e17]
          rfl
        have lC : (core kd sq bo).length = 5 + bo.length := by unfold core; simp [putL_len]; omega
        have S : n_62 = (sumN (core kd sq bo) : Nat) := by rw [h26, C, e11, List.drop_zero, List.take_of_length_le (by rw [lC]; omega)]
        have P2 : ys_68 = putL (sumN (core kd sq bo)) 4 := by rw [h28, putF4 (by omega) (by omega)]; congr 1; try omega
        have e31 : q_69 = 4 := by rw [← h29, P2, putL_len]
        omega
      refine ⟨h32, ?_⟩
      intro z75
      intro qz75 -- z75 = List.take ((1 : Nat) + q_11 + bo.length) z60 ++ List.take q_69 (List.drop (0 : Nat) ys_68)
      -- k (AV.tup [AV.row (0 : Nat) (0 : Nat) (0 : Nat) ((1 : Nat) + q_11 + bo.length + q_69), AV.int IntKind.i64 (0 : Int)]) [] [Blk.row (0 : Nat) z75]
      have P1 : ys_10 = putL sq.toNat 4 := by rw [h2, putF4 (by omega) (by omega)]; congr 1; try omega
      have e11 : q_11 = 4 := by rw [← h3, P1, putL_len]
      have e17 : n17 = kd := by omega
      have C : z60 = core kd sq bo := by
        rw [qz60, qz58, P1, e11, e17]
        rfl
      have lC : (core kd sq bo).length = 5 + bo.length := by unfold core; simp [putL_len]; omega
      have S : n_62 = (sumN (core kd sq bo) : Nat) := by rw [h26, C, e11, List.drop_zero, List.take_of_length_le (by rw [lC]; omega)]
      have P2 : ys_68 = putL (sumN (core kd sq bo)) 4 := by rw [h28, putF4 (by omega) (by omega)]; congr 1; try omega
      have e31 : q_69 = 4 := by rw [← h29, P2, putL_len]
      have Z : z75 = ins kd sq bo := by
        rw [qz75, C, P2, e11, e31, List.take_of_length_le (by rw [lC]; omega)]
        unfold ins
        congr 1
      exact hk.2 (by omega) _ _ Z (by rw [Z, e11, e31]; unfold ins; rw [List.length_append, lC, putL_len]; try omega)
    refine ⟨?_, ?_⟩
    · -- left
      refine ⟨?_, ?_⟩
      · -- left
        have h33 : ((1 : Nat) + q_11) * (1 : Nat) ≤ (140737488355328 : Nat) := by
          have P1 : ys_10 = putL sq.toNat 4 := by rw [h2, putF4 (by omega) (by omega)]; congr 1; try omega
          have e11 : q_11 = 4 := by rw [← h3, P1, putL_len]
          omega
        refine ⟨h33, ?_⟩
        intro z77
        intro qz77 -- z77 = List.take (1 : Nat) [UInt8.ofNat n17.toNat] ++ List.take q_11 (List.drop (0 : Nat) ys_10)
        have h34 : ((1 : Nat) + q_11 + bo.length) * (1 : Nat) ≤ (140737488355328 : Nat) := by
          have P1 : ys_10 = putL sq.toNat 4 := by rw [h2, putF4 (by omega) (by omega)]; congr 1; try omega
          have e11 : q_11 = 4 := by rw [← h3, P1, putL_len]
          omega
        refine ⟨h34, ?_⟩
        intro z79
        intro qz79 -- z79 = List.take ((1 : Nat) + q_11) z77 ++ bo
        intro n_81
        intro h35 -- n_81 = (↑(sumN (List.take ((1 : Nat) + q_11 + bo.length) (List.drop (0 : Nat) z79))) : Int)
        intro ⟨a36, b36⟩ -- (0 : Int) ≤ n_81 ∧ n_81 ≤ (4294967295 : Int)
        intro n84
        intro q84 -- n84 = IntKind.u64.wrap n_81
        rw [IntKind.wrap_u64] at q84
        intro ⟨l84, u84⟩ -- (0 : Int) ≤ n84 ∧ n84 ≤ (18446744073709551615 : Int)
        refine ⟨by exact ⟨by assumption, by assumption⟩, ?_⟩ -- (0 : Int) ≤ n84 ∧ n84 ≤ (18446744073709551615 : Int)
        refine ⟨by first | omega | (dsimp only; omega), ?_⟩ -- (-9223372036854775808 : Int) ≤ (4 : Int) ∧ (4 : Int) ≤ (9223372036854775807 : Int)
        intro ys_87
        intro q_88
        intro e_89
        intro h37 -- ys_87 = putF n84 (4 : Int)
        intro h38 -- ys_87.length = q_88
        intro h39 -- e_89 = putE n84 (4 : Int)
        intro h40 -- e_89 = (0 : Int) ∨ e_89 = (2 : Int)
        have h41 : ((1 : Nat) + q_11 + bo.length + q_88) * (1 : Nat) ≤ (140737488355328 : Nat) := by
          have P1 : ys_10 = putL sq.toNat 4 := by rw [h2, putF4 (by omega) (by omega)]; congr 1; try omega
          have e11 : q_11 = 4 := by rw [← h3, P1, putL_len]
          have e17 : n17 = kd := by omega
          have C : z79 = core kd sq bo := by
            rw [qz79, qz77, P1, e11, e17]
            rfl
          have lC : (core kd sq bo).length = 5 + bo.length := by unfold core; simp [putL_len]; omega
          have S : n_81 = (sumN (core kd sq bo) : Nat) := by rw [h35, C, e11, List.drop_zero, List.take_of_length_le (by rw [lC]; omega)]
          have P2 : ys_87 = putL (sumN (core kd sq bo)) 4 := by rw [h37, putF4 (by omega) (by omega)]; congr 1; try omega
          have e31 : q_88 = 4 := by rw [← h38, P2, putL_len]
          omega
        refine ⟨h41, ?_⟩
        intro z94
        intro qz94 -- z94 = List.take ((1 : Nat) + q_11 + bo.length) z79 ++ List.take q_88 (List.drop (0 : Nat) ys_87)
        -- k (AV.tup [AV.row (0 : Nat) (0 : Nat) (0 : Nat) ((1 : Nat) + q_11 + bo.length + q_88), AV.int IntKind.i64 (0 : Int)]) [] [Blk.row (0 : Nat) z94]
        have P1 : ys_10 = putL sq.toNat 4 := by rw [h2, putF4 (by omega) (by omega)]; congr 1; try omega
        have e11 : q_11 = 4 := by rw [← h3, P1, putL_len]
        have e17 : n17 = kd := by omega
        have C : z79 = core kd sq bo := by
          rw [qz79, qz77, P1, e11, e17]
          rfl
        have lC : (core kd sq bo).length = 5 + bo.length := by unfold core; simp [putL_len]; omega
        have S : n_81 = (sumN (core kd sq bo) : Nat) := by rw [h35, C, e11, List.drop_zero, List.take_of_length_le (by rw [lC]; omega)]
        have P2 : ys_87 = putL (sumN (core kd sq bo)) 4 := by rw [h37, putF4 (by omega) (by omega)]; congr 1; try omega
        have e31 : q_88 = 4 := by rw [← h38, P2, putL_len]
        have Z : z94 = ins kd sq bo := by
          rw [qz94, C, P2, e11, e31, List.take_of_length_le (by rw [lC]; omega)]
          unfold ins
          congr 1
        exact hk.2 (by omega) _ _ Z (by rw [Z, e11, e31]; unfold ins; rw [List.length_append, lC, putL_len]; try omega)
      have h42 : ((1 : Nat) + q_11) * (1 : Nat) ≤ (140737488355328 : Nat) := by
        have P1 : ys_10 = putL sq.toNat 4 := by rw [h2, putF4 (by omega) (by omega)]; congr 1; try omega
        have e11 : q_11 = 4 := by rw [← h3, P1, putL_len]
        omega
      refine ⟨h42, ?_⟩
      intro z96
      intro qz96 -- z96 = List.take (1 : Nat) [UInt8.ofNat n17.toNat] ++ List.take q_11 (List.drop (0 : Nat) ys_10)
      have h43 : ((1 : Nat) + q_11 + bo.length) * (1 : Nat) ≤ (140737488355328 : Nat) := by
        have P1 : ys_10 = putL sq.toNat 4 := by rw [h2, putF4 (by omega) (by omega)]; congr 1; try omega
        have e11 : q_11 = 4 := by rw [← h3, P1, putL_len]
        omega
      refine ⟨h43, ?_⟩
      intro z98
      intro qz98 -- z98 = List.take ((1 : Nat) + q_11) z96 ++ bo
      intro n_100
      intro h44 -- n_100 = (↑(sumN (List.take ((1 : Nat) + q_11 + bo.length) (List.drop (0 : Nat) z98))) : Int)
      intro ⟨a45, b45⟩ -- (0 : Int) ≤ n_100 ∧ n_100 ≤ (4294967295 : Int)
      intro n103
      intro q103 -- n103 = IntKind.u64.wrap n_100
      rw [IntKind.wrap_u64] at q103
      intro ⟨l103, u103⟩ -- (0 : Int) ≤ n103 ∧ n103 ≤ (18446744073709551615 : Int)
      refine ⟨by exact ⟨by assumption, by assumption⟩, ?_⟩ -- (0 : Int) ≤ n103 ∧ n103 ≤ (18446744073709551615 : Int)
      refine ⟨by first | omega | (dsimp only; omega), ?_⟩ -- (-9223372036854775808 : Int) ≤ (4 : Int) ∧ (4 : Int) ≤ (9223372036854775807 : Int)
      intro ys_106
      intro q_107
      intro e_108
      intro h46 -- ys_106 = putF n103 (4 : Int)
      intro h47 -- ys_106.length = q_107
      intro h48 -- e_108 = putE n103 (4 : Int)
      intro h49 -- e_108 = (0 : Int) ∨ e_108 = (2 : Int)
      have h50 : ((1 : Nat) + q_11 + bo.length + q_107) * (1 : Nat) ≤ (140737488355328 : Nat) := by
        have P1 : ys_10 = putL sq.toNat 4 := by rw [h2, putF4 (by omega) (by omega)]; congr 1; try omega
        have e11 : q_11 = 4 := by rw [← h3, P1, putL_len]
        have e17 : n17 = kd := by omega
        have C : z98 = core kd sq bo := by
          rw [qz98, qz96, P1, e11, e17]
          rfl
        have lC : (core kd sq bo).length = 5 + bo.length := by unfold core; simp [putL_len]; omega
        have S : n_100 = (sumN (core kd sq bo) : Nat) := by rw [h44, C, e11, List.drop_zero, List.take_of_length_le (by rw [lC]; omega)]
        have P2 : ys_106 = putL (sumN (core kd sq bo)) 4 := by rw [h46, putF4 (by omega) (by omega)]; congr 1; try omega
        have e31 : q_107 = 4 := by rw [← h47, P2, putL_len]
        omega
      refine ⟨h50, ?_⟩
      intro z113
      intro qz113 -- z113 = List.take ((1 : Nat) + q_11 + bo.length) z98 ++ List.take q_107 (List.drop (0 : Nat) ys_106)
      -- k (AV.tup [AV.row (0 : Nat) (0 : Nat) (0 : Nat) ((1 : Nat) + q_11 + bo.length + q_107), AV.int IntKind.i64 (0 : Int)]) [] [Blk.row (0 : Nat) z113]
      have P1 : ys_10 = putL sq.toNat 4 := by rw [h2, putF4 (by omega) (by omega)]; congr 1; try omega
      have e11 : q_11 = 4 := by rw [← h3, P1, putL_len]
      have e17 : n17 = kd := by omega
      have C : z98 = core kd sq bo := by
        rw [qz98, qz96, P1, e11, e17]
        rfl
      have lC : (core kd sq bo).length = 5 + bo.length := by unfold core; simp [putL_len]; omega
      have S : n_100 = (sumN (core kd sq bo) : Nat) := by rw [h44, C, e11, List.drop_zero, List.take_of_length_le (by rw [lC]; omega)]
      have P2 : ys_106 = putL (sumN (core kd sq bo)) 4 := by rw [h46, putF4 (by omega) (by omega)]; congr 1; try omega
      have e31 : q_107 = 4 := by rw [← h47, P2, putL_len]
      have Z : z113 = ins kd sq bo := by
        rw [qz113, C, P2, e11, e31, List.take_of_length_le (by rw [lC]; omega)]
        unfold ins
        congr 1
      exact hk.2 (by omega) _ _ Z (by rw [Z, e11, e31]; unfold ins; rw [List.length_append, lC, putL_len]; try omega)
    have h51 : ((1 : Nat) + q_11) * (1 : Nat) ≤ (140737488355328 : Nat) := by
      have P1 : ys_10 = putL sq.toNat 4 := by rw [h2, putF4 (by omega) (by omega)]; congr 1; try omega
      have e11 : q_11 = 4 := by rw [← h3, P1, putL_len]
      omega
    refine ⟨h51, ?_⟩
    intro z115
    intro qz115 -- z115 = List.take (1 : Nat) [UInt8.ofNat n17.toNat] ++ List.take q_11 (List.drop (0 : Nat) ys_10)
    have h52 : ((1 : Nat) + q_11 + bo.length) * (1 : Nat) ≤ (140737488355328 : Nat) := by
      have P1 : ys_10 = putL sq.toNat 4 := by rw [h2, putF4 (by omega) (by omega)]; congr 1; try omega
      have e11 : q_11 = 4 := by rw [← h3, P1, putL_len]
      omega
    refine ⟨h52, ?_⟩
    intro z117
    intro qz117 -- z117 = List.take ((1 : Nat) + q_11) z115 ++ bo
    intro n_119
    intro h53 -- n_119 = (↑(sumN (List.take ((1 : Nat) + q_11 + bo.length) (List.drop (0 : Nat) z117))) : Int)
    intro ⟨a54, b54⟩ -- (0 : Int) ≤ n_119 ∧ n_119 ≤ (4294967295 : Int)
    intro n122
    intro q122 -- n122 = IntKind.u64.wrap n_119
    rw [IntKind.wrap_u64] at q122
    intro ⟨l122, u122⟩ -- (0 : Int) ≤ n122 ∧ n122 ≤ (18446744073709551615 : Int)
    refine ⟨by exact ⟨by assumption, by assumption⟩, ?_⟩ -- (0 : Int) ≤ n122 ∧ n122 ≤ (18446744073709551615 : Int)
    refine ⟨by first | omega | (dsimp only; omega), ?_⟩ -- (-9223372036854775808 : Int) ≤ (4 : Int) ∧ (4 : Int) ≤ (9223372036854775807 : Int)
    intro ys_125
    intro q_126
    intro e_127
    intro h55 -- ys_125 = putF n122 (4 : Int)
    intro h56 -- ys_125.length = q_126
    intro h57 -- e_127 = putE n122 (4 : Int)
    intro h58 -- e_127 = (0 : Int) ∨ e_127 = (2 : Int)
    have h59 : ((1 : Nat) + q_11 + bo.length + q_126) * (1 : Nat) ≤ (140737488355328 : Nat) := by
      have P1 : ys_10 = putL sq.toNat 4 := by rw [h2, putF4 (by omega) (by omega)]; congr 1; try omega
      have e11 : q_11 = 4 := by rw [← h3, P1, putL_len]
      have e17 : n17 = kd := by omega
      have C : z117 = core kd sq bo := by
        rw [qz117, qz115, P1, e11, e17]
        rfl
      have lC : (core kd sq bo).length = 5 + bo.length := by unfold core; simp [putL_len]; omega
      have S : n_119 = (sumN (core kd sq bo) : Nat) := by rw [h53, C, e11, List.drop_zero, List.take_of_length_le (by rw [lC]; omega)]
      have P2 : ys_125 = putL (sumN (core kd sq bo)) 4 := by rw [h55, putF4 (by omega) (by omega)]; congr 1; try omega
      have e31 : q_126 = 4 := by rw [← h56, P2, putL_len]
      omega
    refine ⟨h59, ?_⟩
    intro z132
    intro qz132 -- z132 = List.take ((1 : Nat) + q_11 + bo.length) z117 ++ List.take q_126 (List.drop (0 : Nat) ys_125)
    -- k (AV.tup [AV.row (0 : Nat) (0 : Nat) (0 : Nat) ((1 : Nat) + q_11 + bo.length + q_126), AV.int IntKind.i64 (0 : Int)]) [] [Blk.row (0 : Nat) z132]
    have P1 : ys_10 = putL sq.toNat 4 := by rw [h2, putF4 (by omega) (by omega)]; congr 1; try omega
    have e11 : q_11 = 4 := by rw [← h3, P1, putL_len]
    have e17 : n17 = kd := by omega
    have C : z117 = core kd sq bo := by
      rw [qz117, qz115, P1, e11, e17]
      rfl
    have lC : (core kd sq bo).length = 5 + bo.length := by unfold core; simp [putL_len]; omega
    have S : n_119 = (sumN (core kd sq bo) : Nat) := by rw [h53, C, e11, List.drop_zero, List.take_of_length_le (by rw [lC]; omega)]
    have P2 : ys_125 = putL (sumN (core kd sq bo)) 4 := by rw [h55, putF4 (by omega) (by omega)]; congr 1; try omega
    have e31 : q_126 = 4 := by rw [← h56, P2, putL_len]
    have Z : z132 = ins kd sq bo := by
      rw [qz132, C, P2, e11, e31, List.take_of_length_le (by rw [lC]; omega)]
      unfold ins
      congr 1
    exact hk.2 (by omega) _ _ Z (by rw [Z, e11, e31]; unfold ins; rw [List.length_append, lC, putL_len]; try omega)

theorem inside_ok : Holds Try.prog 10 insideS := by
  refine fn_sound (env := mkEnv T1) (tab_ok T1_ok) Try.func10 Try.call10 fun args k h => ?_
  match args, h with
  | [.agg [.int .u8 kd, .int .u32 sq, .sl 0 bo]], h => exact ⟨by kernel_rfl, fun _ _ => none, fun _ _ => none, .cast (by kernel_rfl) (inside_vc kd h.1.1 h.1.2 sq h.2.1.1 h.2.1.2 bo k h.2.2)⟩
set_option maxHeartbeats 2000000 in
theorem open_vc (b : List UInt8) (k : AV → List (Option Blk) → List Blk → Prop) (hk : (¬okO b → k (AV.tup [AV.agg [AV.int IntKind.u8 (0 : Int), AV.int IntKind.u32 (0 : Int), AV.nilsl], AV.int IntKind.i64 (8 : Int)]) [] []) ∧ (okO b → ∀ (kd sq : Int) (bo : List UInt8) (n : Nat), kd = oK b → sq = oS b → bo = oB b → bo.length = n → inK IntKind.u8 kd → inK IntKind.u32 sq → k (AV.tup [AV.agg [AV.int IntKind.u8 kd, AV.int IntKind.u32 sq, AV.row (0 : Nat) (0 : Nat) (0 : Nat) n], AV.int IntKind.i64 (0 : Int)]) [] [Blk.row (0 : Nat) bo])) :
  ∀ (n1 : Int),
  (n1 = (↑b.length : Int)) →
  ((-9223372036854775808 : Int) ≤ n1 ∧ n1 ≤ (9223372036854775807 : Int)) →
  ∀ (n4 : Int),
  (n4 = IntKind.i64.wrap (n1 - (4 : Int))) →
  ((-9223372036854775808 : Int) ≤ n4 ∧ n4 ≤ (9223372036854775807 : Int)) →
  br (bif decide (n4 < (5 : Int)) then true else decide (n4 > (517 : Int)))
   ((k (AV.tup [AV.agg [AV.int IntKind.u8 (0 : Int), AV.int IntKind.u32 (0 : Int), AV.nilsl], AV.int IntKind.i64 (8 : Int)]) [] []))
   (((0 : Int) ≤ (1 : Int)) ∧
    ((1 : Int) ≤ (5 : Int)) ∧
    ((5 : Int) ≤ (↑b.length : Int)) ∧
    ∀ (a_7 : Int),
    ∀ (e_8 : Int),
    (a_7 = getV (List.drop (Int.toNat (1 : Int)) (List.take (Int.toNat (5 : Int)) b))) →
    (e_8 = getE (List.drop (Int.toNat (1 : Int)) (List.take (Int.toNat (5 : Int)) b))) →
    ((0 : Int) ≤ a_7 ∧ a_7 ≤ (18446744073709551615 : Int)) →
    (e_8 = (0 : Int) ∨ e_8 = (8 : Int)) →
    ((0 : Int) ≤ n4) ∧
    (n4 ≤ (↑b.length : Int)) ∧
    ∀ (a_13 : Int),
    ∀ (e_14 : Int),
    (a_13 = getV (List.drop n4.toNat b)) →
    (e_14 = getE (List.drop n4.toNat b)) →
    ((0 : Int) ≤ a_13 ∧ a_13 ≤ (18446744073709551615 : Int)) →
    (e_14 = (0 : Int) ∨ e_14 = (8 : Int)) →
    ((0 : Int) ≤ n4) ∧
    (n4 ≤ (↑b.length : Int)) ∧
    ∀ (n_19 : Int),
    (n_19 = (↑(sumN (List.take n4.toNat b)) : Int)) →
    ((0 : Int) ≤ n_19 ∧ n_19 ≤ (4294967295 : Int)) →
    ∀ (n22 : Int),
    (n22 = IntKind.u64.wrap n_19) →
    ((0 : Int) ≤ n22 ∧ n22 ≤ (18446744073709551615 : Int)) →
    br (n22 != a_13)
     ((k (AV.tup [AV.agg [AV.int IntKind.u8 (0 : Int), AV.int IntKind.u32 (0 : Int), AV.nilsl], AV.int IntKind.i64 (8 : Int)]) [] []))
     (((0 : Int) ≤ (0 : Int)) ∧
      ((0 : Int) < (↑b.length : Int)) ∧
      ∀ (n25 : Int),
      (n25 = (↑(b.getD (Int.toNat (0 : Int)) (0 : UInt8)).toNat : Int)) →
      ((0 : Int) ≤ n25 ∧ n25 ≤ (255 : Int)) →
      ∀ (n28 : Int),
      (n28 = IntKind.u32.wrap a_7) →
      ((0 : Int) ≤ n28 ∧ n28 ≤ (4294967295 : Int)) →
      ((0 : Int) ≤ (5 : Int)) ∧
      ((5 : Int) ≤ n4) ∧
      (n4 ≤ (↑b.length : Int)) ∧
      ((List.drop (Int.toNat (5 : Int)) (List.take n4.toNat b)).length ≤ (1000000 : Nat)) ∧
      (k (AV.tup [AV.agg [AV.int IntKind.u8 n25, AV.int IntKind.u32 n28, AV.row (0 : Nat) (0 : Nat) (0 : Nat) (List.drop (Int.toNat (5 : Int)) (List.take n4.toNat b)).length], AV.int IntKind.i64 (0 : Int)]) [] [Blk.row (0 : Nat) (List.drop (Int.toNat (5 : Int)) (List.take n4.toNat b))]))) := by
  intro n1
  intro q1 -- n1 = (↑b.length : Int)
  intro ⟨l1, u1⟩ -- (-9223372036854775808 : Int) ≤ n1 ∧ n1 ≤ (9223372036854775807 : Int)
  intro n4
  intro q4 -- n4 = IntKind.i64.wrap (n1 - (4 : Int))
  rw [IntKind.wrap_i64] at q4
  intro ⟨l4, u4⟩ -- (-9223372036854775808 : Int) ≤ n4 ∧ n4 ≤ (9223372036854775807 : Int)
  refine br_intro (fun c1 => ?_) (fun c1 => ?_) -- bif decide (n4 < (5 : Int)) then true else decide (n4 > (517 : Int))
  · -- yes
    simp at c1 -- n4 < (5 : Int) ∨ (517 : Int) < n4
    -- k (AV.tup [AV.agg [AV.int IntKind.u8 (0 : Int), AV.int IntKind.u32 (0 : Int), AV.nilsl], AV.int IntKind.i64 (8 : Int)]) [] []
    exact hk.1 fun o => by have := o.1; have := o.2.1; omega
  · -- no
    simp at c1 -- (5 : Int) ≤ n4 ∧ n4 ≤ (517 : Int)
    refine ⟨by first | omega | (dsimp only; omega), ?_⟩ -- (0 : Int) ≤ (1 : Int)
    refine ⟨by first | omega | (dsimp only; omega), ?_⟩ -- (1 : Int) ≤ (5 : Int)
    refine ⟨by first | omega | (dsimp only; omega), ?_⟩ -- (5 : Int) ≤ (↑b.length : Int)
    intro a_7
    intro e_8
    intro h2 -- a_7 = getV (List.drop (Int.toNat (1 : Int)) (List.take (Int.toNat (5 : Int)) b))
    intro h3 -- e_8 = getE (List.drop (Int.toNat (1 : Int)) (List.take (Int.toNat (5 : Int)) b))
    intro ⟨a4, b4⟩ -- (0 : Int) ≤ a_7 ∧ a_7 ≤ (18446744073709551615 : Int)
    intro h5 -- e_8 = (0 : Int) ∨ e_8 = (8 : Int)
    refine ⟨by first | omega | (dsimp only; omega), ?_⟩ -- (0 : Int) ≤ n4
    refine ⟨by first | omega | (dsimp only; omega), ?_⟩ -- n4 ≤ (↑b.length : Int)
    intro a_13
    intro e_14
    intro h6 -- a_13 = getV (List.drop n4.toNat b)
    intro h7 -- e_14 = getE (List.drop n4.toNat b)
    intro ⟨a8, b8⟩ -- (0 : Int) ≤ a_13 ∧ a_13 ≤ (18446744073709551615 : Int)
    intro h9 -- e_14 = (0 : Int) ∨ e_14 = (8 : Int)
    refine ⟨by first | omega | (dsimp only; omega), ?_⟩ -- (0 : Int) ≤ n4
    refine ⟨by first | omega | (dsimp only; omega), ?_⟩ -- n4 ≤ (↑b.length : Int)
    intro n_19
    intro h10 -- n_19 = (↑(sumN (List.take n4.toNat b)) : Int)
    intro ⟨a11, b11⟩ -- (0 : Int) ≤ n_19 ∧ n_19 ≤ (4294967295 : Int)
    intro n22
    intro q22 -- n22 = IntKind.u64.wrap n_19
    rw [IntKind.wrap_u64] at q22
    intro ⟨l22, u22⟩ -- (0 : Int) ≤ n22 ∧ n22 ≤ (18446744073709551615 : Int)
    refine br_intro (fun c12 => ?_) (fun c12 => ?_) -- n22 != a_13
    · -- yes
      simp at c12 -- ¬n22 = a_13
      -- k (AV.tup [AV.agg [AV.int IntKind.u8 (0 : Int), AV.int IntKind.u32 (0 : Int), AV.nilsl], AV.int IntKind.i64 (8 : Int)]) [] []
      have e4 : n4.toNat = b.length - 4 := by omega
      refine hk.1 fun o => c12 ?_
      have o3 := o.2.2
      rw [h6]
      unfold getV
      rw [getV4 (by simp; omega), e4, ← o3]
      rw [e4] at h10
      omega
    · -- no
      simp at c12 -- n22 = a_13
      refine ⟨by first | omega | (dsimp only; omega), ?_⟩ -- (0 : Int) ≤ (0 : Int)
      refine ⟨by first | omega | (dsimp only; omega), ?_⟩ -- (0 : Int) < (↑b.length : Int)
      intro n25
      intro q25 -- n25 = (↑(b.getD (Int.toNat (0 : Int)) (0 : UInt8)).toNat : Int)
      intro ⟨l25, u25⟩ -- (0 : Int) ≤ n25 ∧ n25 ≤ (255 : Int)
      intro n28
      intro q28 -- n28 = IntKind.u32.wrap a_7
      rw [IntKind.wrap_u32] at q28
      intro ⟨l28, u28⟩ -- (0 : Int) ≤ n28 ∧ n28 ≤ (4294967295 : Int)
      refine ⟨by first | omega | (dsimp only; omega), ?_⟩ -- (0 : Int) ≤ (5 : Int)
      refine ⟨by first | omega | (dsimp only; omega), ?_⟩ -- (5 : Int) ≤ n4
      refine ⟨by first | omega | (dsimp only; omega), ?_⟩ -- n4 ≤ (↑b.length : Int)
      have h13 : (List.drop (Int.toNat (5 : Int)) (List.take n4.toNat b)).length ≤ (1000000 : Nat) := by
        simp; omega
      refine ⟨h13, ?_⟩
      -- k (AV.tup [AV.agg [AV.int IntKind.u8 n25, AV.int IntKind.u32 n28, AV.row (0 : Nat) (0 : Nat) (0 : Nat) (List.drop (Int.toNat (5 : Int)) (List.take n4.toNat b)).length], AV.int IntKind.i64 (0 : Int)]) [] [Blk.row (0 : Nat) (List.drop (Int.toNat (5 : Int)) (List.take n4.toNat b))]
      have e4 : n4.toNat = b.length - 4 := by omega
      have l4 : (List.drop (Int.toNat 1) (List.take (Int.toNat 5) b)).length = 4 := by
        rw [List.length_drop, List.length_take]
        show min 5 b.length - 1 = 4
        omega
      have a7 : a_7 = oS b := by
        rw [h2]
        unfold getV oS
        rw [getV4 l4]
        rw [show List.drop (Int.toNat 1) (List.take (Int.toNat 5) b) = List.take 4 (List.drop 1 b) from List.drop_take (i := 1) (j := 5) (l := b)]
      have g7 := getL_lt (List.drop (Int.toNat 1) (List.take (Int.toNat 5) b))
      rw [l4] at g7
      have g7 : getL (List.drop (Int.toNat 1) (List.take (Int.toNat 5) b)) < 4294967296 := g7
      have a8 : a_7 = (getL (List.drop (Int.toNat 1) (List.take (Int.toNat 5) b)) : Int) := by rw [h2]; unfold getV; exact getV4 l4
      refine hk.2 ⟨by omega, by omega, ?_⟩ n25 n28 _ _ q25 (by omega) (by rw [e4]; rfl) rfl ⟨by omega, by omega⟩ ⟨by omega, by omega⟩
      have g : a_13 = (getL (List.drop n4.toNat b) : Int) := by rw [h6]; unfold getV; exact getV4 (by simp; omega)
      rw [e4] at g h10
      omega

theorem open_ok : Holds Try.prog 14 openS := by
  refine fn_sound (env := mkEnv T1) (tab_ok T1_ok) Try.func14 Try.call14 fun args k h => ?_
  match args, h with
  | [.sl 0 b], h => exact ⟨by kernel_rfl, fun _ _ => none, fun _ _ => none, .cast (by kernel_rfl) (open_vc b k h)⟩
end Go.Proofs.Ytilbglkpbjamfaa

