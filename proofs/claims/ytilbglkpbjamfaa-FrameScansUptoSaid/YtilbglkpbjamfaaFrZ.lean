import Derived.Test.YtilbglkpbjamfaaFrY
namespace Go.Proofs.Ytilbglkpbjamfaa
open Go Go.Eng Go.Rw Go.Fr Go.Proofs
set_option linter.unusedVariables false
set_option maxHeartbeats 2000000 in
theorem rall_vc (b : List UInt8) (hb : b.length ≤ (2200000 : Nat)) (k : AV → List (Option Blk) → List Blk → Prop) (hk : ∀ (ys : List Msg) (m : Nat) (a : Int), ys = scan b → ys.length = m → a = lastE b → (-1 : Int) ≤ a ∧ a < (↑b.length : Int) → k (AV.tup [AV.row (8 : Nat) (0 : Nat) (0 : Nat) m, AV.int IntKind.i64 a]) [] [Blk.row (8 : Nat) ys]) :
  (
   ∃ (v : Nat × Int × List Msg),
   (b = b) ∧
   ((0 : Nat) = (0 : Nat)) ∧
   ((0 : Nat) = v.snd.snd.length) ∧
   ((-1 : Int) = v.snd.fst) ∧
   ((0 : Int) = (↑v.fst : Int)) ∧
   ([] = v.snd.snd) ∧
   (v.fst ≤ b.length) ∧
   (b.length ≤ (2200000 : Nat)) ∧
   (
    ((-1 : Int) ≤ v.snd.fst) ∧
    (v.snd.fst < (↑v.fst : Int))) ∧
   (v.snd.snd.length ≤ v.fst) ∧
   (AIn b v.fst v.snd.snd v.snd.fst)) ∧
  ∀ (v_1 : Nat × Int × List Msg),
  (v_1.fst ≤ b.length ∧ b.length ≤ (2200000 : Nat) ∧ ((-1 : Int) ≤ v_1.snd.fst ∧ v_1.snd.fst < (↑v_1.fst : Int)) ∧ v_1.snd.snd.length ≤ v_1.fst ∧ AIn b v_1.fst v_1.snd.snd v_1.snd.fst) →
  ∀ (n3 : Int),
  (n3 = (↑b.length : Int)) →
  ((-9223372036854775808 : Int) ≤ n3 ∧ n3 ≤ (9223372036854775807 : Int)) →
  br (decide ((↑v_1.fst : Int) < n3))
   (((0 : Int) ≤ (↑v_1.fst : Int)) ∧
    ((↑v_1.fst : Int) < (↑b.length : Int)) ∧
    ∀ (n6 : Int),
    (n6 = (↑(b.getD (↑v_1.fst : Int).toNat (0 : UInt8)).toNat : Int)) →
    ((0 : Int) ≤ n6 ∧ n6 ≤ (255 : Int)) →
    br (n6 != (126 : Int))
     (∀ (n9 : Int),
      (n9 = IntKind.i64.wrap ((↑v_1.fst : Int) + (1 : Int))) →
      ((-9223372036854775808 : Int) ≤ n9 ∧ n9 ≤ (9223372036854775807 : Int)) →
      ∃ (v' : Nat × Int × List Msg),
      (b = b) ∧
      ((0 : Nat) = (0 : Nat)) ∧
      (v_1.snd.snd.length = v'.snd.snd.length) ∧
      (v_1.snd.fst = v'.snd.fst) ∧
      (n9 = (↑v'.fst : Int)) ∧
      (v_1.snd.snd = v'.snd.snd) ∧
      (
       (v'.fst ≤ b.length) ∧
       (b.length ≤ (2200000 : Nat)) ∧
       (
        ((-1 : Int) ≤ v'.snd.fst) ∧
        (v'.snd.fst < (↑v'.fst : Int))) ∧
       (v'.snd.snd.length ≤ v'.fst) ∧
       (AIn b v'.fst v'.snd.snd v'.snd.fst)) ∧
      (b.length - v'.fst < b.length - v_1.fst))
     (∀ (n12 : Int),
      (n12 = IntKind.i64.wrap ((↑v_1.fst : Int) - v_1.snd.fst)) →
      br (bif decide (v_1.snd.fst ≥ (0 : Int)) then decide (n12 < (1100 : Int)) else false)
       (∀ (n14 : Int),
        (n14 = IntKind.i64.wrap (v_1.snd.fst + (1 : Int))) →
        ((-9223372036854775808 : Int) ≤ n14 ∧ n14 ≤ (9223372036854775807 : Int)) →
        ((0 : Int) ≤ n14) ∧
        (n14 ≤ (↑v_1.fst : Int)) ∧
        ((↑v_1.fst : Int) ≤ (↑b.length : Int)) ∧
        ((List.drop n14.toNat (List.take (↑v_1.fst : Int).toNat b)).length ≤ (1000000 : Nat)) ∧
        (
         (bare (List.drop n14.toNat (List.take (↑v_1.fst : Int).toNat b)) = none) →
         ∀ (n18 : Int),
         (n18 = IntKind.i64.wrap ((↑v_1.fst : Int) + (1 : Int))) →
         ((-9223372036854775808 : Int) ≤ n18 ∧ n18 ≤ (9223372036854775807 : Int)) →
         ∃ (v' : Nat × Int × List Msg),
         (b = b) ∧
         ((0 : Nat) = (0 : Nat)) ∧
         (v_1.snd.snd.length = v'.snd.snd.length) ∧
         ((↑v_1.fst : Int) = v'.snd.fst) ∧
         (n18 = (↑v'.fst : Int)) ∧
         (v_1.snd.snd = v'.snd.snd) ∧
         (
          (v'.fst ≤ b.length) ∧
          (b.length ≤ (2200000 : Nat)) ∧
          (
           ((-1 : Int) ≤ v'.snd.fst) ∧
           (v'.snd.fst < (↑v'.fst : Int))) ∧
          (v'.snd.snd.length ≤ v'.fst) ∧
          (AIn b v'.fst v'.snd.snd v'.snd.fst)) ∧
         (b.length - v'.fst < b.length - v_1.fst)) ∧
        ∀ (o_21 : List UInt8),
        ∀ (n_22 : Nat),
        (bare (List.drop n14.toNat (List.take (↑v_1.fst : Int).toNat b)) = some o_21) →
        (o_21.length = n_22) →
        (
         (¬okO (List.take n_22 (List.drop (0 : Nat) o_21))) →
         ∀ (n26 : Int),
         (n26 = IntKind.i64.wrap ((↑v_1.fst : Int) + (1 : Int))) →
         ((-9223372036854775808 : Int) ≤ n26 ∧ n26 ≤ (9223372036854775807 : Int)) →
         ∃ (v' : Nat × Int × List Msg),
         (b = b) ∧
         ((0 : Nat) = (0 : Nat)) ∧
         (v_1.snd.snd.length = v'.snd.snd.length) ∧
         ((↑v_1.fst : Int) = v'.snd.fst) ∧
         (n26 = (↑v'.fst : Int)) ∧
         (v_1.snd.snd = v'.snd.snd) ∧
         (
          (v'.fst ≤ b.length) ∧
          (b.length ≤ (2200000 : Nat)) ∧
          (
           ((-1 : Int) ≤ v'.snd.fst) ∧
           (v'.snd.fst < (↑v'.fst : Int))) ∧
          (v'.snd.snd.length ≤ v'.fst) ∧
          (AIn b v'.fst v'.snd.snd v'.snd.fst)) ∧
         (b.length - v'.fst < b.length - v_1.fst)) ∧
        (((9 : Nat) ≤ (List.take n_22 (List.drop (0 : Nat) o_21)).length ∧ (List.take n_22 (List.drop (0 : Nat) o_21)).length ≤ (521 : Nat) ∧ sumN (List.take ((List.take n_22 (List.drop (0 : Nat) o_21)).length - (4 : Nat)) (List.take n_22 (List.drop (0 : Nat) o_21))) = getL (List.drop ((List.take n_22 (List.drop (0 : Nat) o_21)).length - (4 : Nat)) (List.take n_22 (List.drop (0 : Nat) o_21)))) →
        ∀ (kd_30 : Int),
        ∀ (sq_31 : Int),
        ∀ (bo_32 : List UInt8),
        ∀ (n_33 : Nat),
        (kd_30 = oK (List.take n_22 (List.drop (0 : Nat) o_21))) →
        (sq_31 = oS (List.take n_22 (List.drop (0 : Nat) o_21))) →
        (bo_32 = oB (List.take n_22 (List.drop (0 : Nat) o_21))) →
        (bo_32.length = n_33) →
        ((0 : Int) ≤ kd_30 ∧ kd_30 ≤ (255 : Int)) →
        ((0 : Int) ≤ sq_31 ∧ sq_31 ≤ (4294967295 : Int)) →
        ((v_1.snd.snd.length + (1 : Nat)) * (32 : Nat) ≤ (140737488355328 : Nat)) ∧
        ∀ (z40 : List Msg),
        (z40 = List.take v_1.snd.snd.length v_1.snd.snd ++ List.take (1 : Nat) (List.drop (0 : Nat) [{ kind := UInt8.ofNat kd_30.toNat, seq := UInt32.ofNat sq_31.toNat, body := List.take n_33 (List.drop (0 : Nat) bo_32) : Msg }])) →
        ∀ (n42 : Int),
        (n42 = IntKind.i64.wrap ((↑v_1.fst : Int) + (1 : Int))) →
        ((-9223372036854775808 : Int) ≤ n42 ∧ n42 ≤ (9223372036854775807 : Int)) →
        ∃ (v' : Nat × Int × List Msg),
        (b = b) ∧
        ((0 : Nat) = (0 : Nat)) ∧
        (v_1.snd.snd.length + (1 : Nat) = v'.snd.snd.length) ∧
        ((↑v_1.fst : Int) = v'.snd.fst) ∧
        (n42 = (↑v'.fst : Int)) ∧
        (z40 = v'.snd.snd) ∧
        (
         (v'.fst ≤ b.length) ∧
         (b.length ≤ (2200000 : Nat)) ∧
         (
          ((-1 : Int) ≤ v'.snd.fst) ∧
          (v'.snd.fst < (↑v'.fst : Int))) ∧
         (v'.snd.snd.length ≤ v'.fst) ∧
         (AIn b v'.fst v'.snd.snd v'.snd.fst)) ∧
        (b.length - v'.fst < b.length - v_1.fst)))
       (∀ (n45 : Int),
        (n45 = IntKind.i64.wrap ((↑v_1.fst : Int) + (1 : Int))) →
        ((-9223372036854775808 : Int) ≤ n45 ∧ n45 ≤ (9223372036854775807 : Int)) →
        ∃ (v' : Nat × Int × List Msg),
        (b = b) ∧
        ((0 : Nat) = (0 : Nat)) ∧
        (v_1.snd.snd.length = v'.snd.snd.length) ∧
        ((↑v_1.fst : Int) = v'.snd.fst) ∧
        (n45 = (↑v'.fst : Int)) ∧
        (v_1.snd.snd = v'.snd.snd) ∧
        (
         (v'.fst ≤ b.length) ∧
         (b.length ≤ (2200000 : Nat)) ∧
         (
          ((-1 : Int) ≤ v'.snd.fst) ∧
          (v'.snd.fst < (↑v'.fst : Int))) ∧
         (v'.snd.snd.length ≤ v'.fst) ∧
         (AIn b v'.fst v'.snd.snd v'.snd.fst)) ∧
        (b.length - v'.fst < b.length - v_1.fst))))
   ((k (AV.tup [AV.row (8 : Nat) (0 : Nat) (0 : Nat) v_1.snd.snd.length, AV.int IntKind.i64 v_1.snd.fst]) [] [Blk.row (8 : Nat) v_1.snd.snd])) := by
  refine ⟨?_, ?_⟩
  · -- left
    refine ⟨(Int.toNat (0 : Int), (-1 : Int), []), ?_⟩
    refine ⟨by first | with_reducible rfl | rfl, ?_⟩ -- b = b
    refine ⟨by first | with_reducible rfl | rfl, ?_⟩ -- (0 : Nat) = (0 : Nat)
    refine ⟨by first | with_reducible rfl | rfl, ?_⟩ -- (0 : Nat) = (0 : Nat)
    refine ⟨by first | with_reducible rfl | rfl, ?_⟩ -- (-1 : Int) = (-1 : Int)
    refine ⟨by show (0 : Int) = (↑(Int.toNat (0 : Int)) : Int); omega, ?_⟩ -- (0 : Int) = (↑(Int.toNat (0 : Int)) : Int)
    refine ⟨by first | with_reducible rfl | rfl, ?_⟩ -- [] = []
    refine ⟨by show Int.toNat (0 : Int) ≤ b.length; omega, ?_⟩ -- Int.toNat (0 : Int) ≤ b.length
    refine ⟨by show b.length ≤ (2200000 : Nat); assumption, ?_⟩ -- b.length ≤ (2200000 : Nat)
    refine ⟨by first | omega | (dsimp only; omega), ?_⟩ -- (-1 : Int) ≤ (-1 : Int) ∧ (-1 : Int) < (↑(Int.toNat (0 : Int)) : Int)
    refine ⟨by show (0 : Nat) ≤ Int.toNat (0 : Int); omega, ?_⟩ -- (0 : Nat) ≤ Int.toNat (0 : Int)
    -- AIn b (Int.toNat (0 : Int)) [] (-1 : Int)
    exact ain_0 b
  intro v_1
  intro h1 -- v_1.fst ≤ b.length ∧ b.length ≤ (2200000 : Nat) ∧ ((-1 : Int) ≤ v_1.snd.fst ∧ v_1.snd.fst < (↑v_1.fst : Int)) ∧ v_1.snd.snd.length ≤ v_1.fst ∧ AIn b v_1.fst v_1.snd.snd v_1.snd.fst
  intro n3
  intro q3 -- n3 = (↑b.length : Int)
  intro ⟨l3, u3⟩ -- (-9223372036854775808 : Int) ≤ n3 ∧ n3 ≤ (9223372036854775807 : Int)
  refine brd (fun c2 => ?_) (fun c2 => ?_) -- decide ((↑v_1.fst : Int) < n3)
  · -- yes
    refine ⟨by first | omega | (dsimp only; omega), ?_⟩ -- (0 : Int) ≤ (↑v_1.fst : Int)
    refine ⟨by first | omega | (dsimp only; omega), ?_⟩ -- (↑v_1.fst : Int) < (↑b.length : Int)
    intro n6
    intro q6 -- n6 = (↑(b.getD (↑v_1.fst : Int).toNat (0 : UInt8)).toNat : Int)
    intro ⟨l6, u6⟩ -- (0 : Int) ≤ n6 ∧ n6 ≤ (255 : Int)
    refine br_intro (fun c3 => ?_) (fun c3 => ?_) -- n6 != (126 : Int)
    · -- yes
      simp at c3 -- ¬n6 = (126 : Int)
      intro n9
      intro q9 -- n9 = IntKind.i64.wrap ((↑v_1.fst : Int) + (1 : Int))
      rw [IntKind.wrap_i64] at q9
      intro ⟨l9, u9⟩ -- (-9223372036854775808 : Int) ≤ n9 ∧ n9 ≤ (9223372036854775807 : Int)
      refine ⟨(n9.toNat, v_1.snd.fst, v_1.snd.snd), ?_⟩
      refine ⟨by first | with_reducible rfl | rfl, ?_⟩ -- b = b
      refine ⟨by first | with_reducible rfl | rfl, ?_⟩ -- (0 : Nat) = (0 : Nat)
      refine ⟨by first | with_reducible rfl | rfl, ?_⟩ -- v_1.snd.snd.length = v_1.snd.snd.length
      refine ⟨by first | with_reducible rfl | rfl, ?_⟩ -- v_1.snd.fst = v_1.snd.fst
      refine ⟨by show n9 = (↑n9.toNat : Int); omega, ?_⟩ -- n9 = (↑n9.toNat : Int)
      refine ⟨by first | with_reducible rfl | rfl, ?_⟩ -- v_1.snd.snd = v_1.snd.snd
      refine ⟨?_, ?_⟩
      · -- left
        refine ⟨by show n9.toNat ≤ b.length; omega, ?_⟩ -- n9.toNat ≤ b.length
        refine ⟨by show b.length ≤ (2200000 : Nat); assumption, ?_⟩ -- b.length ≤ (2200000 : Nat)
        refine ⟨by first | omega | (dsimp only; omega), ?_⟩ -- (-1 : Int) ≤ v_1.snd.fst ∧ v_1.snd.fst < (↑n9.toNat : Int)
        refine ⟨by show v_1.snd.snd.length ≤ n9.toNat; omega, ?_⟩ -- v_1.snd.snd.length ≤ n9.toNat
        -- AIn b n9.toNat v_1.snd.snd v_1.snd.fst
        have bx : n6 = ((b.getD v_1.fst 0).toNat : Int) := by rw [q6, Int.toNat_natCast]
        have x0 : b.getD v_1.fst 0 ≠ 126 := fun e => c3 (by rw [bx, e]; rfl)
        exact ain_oth h1.2.2.2.2 (by omega) (by omega) x0
      exact by show b.length - n9.toNat < b.length - v_1.fst; omega -- b.length - n9.toNat < b.length - v_1.fst
    · -- no
      simp at c3 -- n6 = (126 : Int)
      intro n12
      intro q12 -- n12 = IntKind.i64.wrap ((↑v_1.fst : Int) - v_1.snd.fst)
      rw [IntKind.wrap_i64] at q12
      refine br_intro (fun c4 => ?_) (fun c4 => ?_) -- bif decide (v_1.snd.fst ≥ (0 : Int)) then decide (n12 < (1100 : Int)) else false
      · -- yes
        simp at c4 -- (0 : Int) ≤ v_1.snd.fst ∧ n12 < (1100 : Int)
        intro n14
        intro q14 -- n14 = IntKind.i64.wrap (v_1.snd.fst + (1 : Int))
        rw [IntKind.wrap_i64] at q14
        intro ⟨l14, u14⟩ -- (-9223372036854775808 : Int) ≤ n14 ∧ n14 ≤ (9223372036854775807 : Int)
        refine ⟨by first | omega | (dsimp only; omega), ?_⟩ -- (0 : Int) ≤ n14
        refine ⟨by first | omega | (dsimp only; omega), ?_⟩ -- n14 ≤ (↑v_1.fst : Int)
        refine ⟨by first | omega | (dsimp only; omega), ?_⟩ -- (↑v_1.fst : Int) ≤ (↑b.length : Int)
        have h5 : (List.drop n14.toNat (List.take (↑v_1.fst : Int).toNat b)).length ≤ (1000000 : Nat) := by
          rw [List.length_drop, List.length_take]; omega
        refine ⟨h5, ?_⟩
        refine ⟨?_, ?_⟩
        · -- left
          intro h6 -- bare (List.drop n14.toNat (List.take (↑v_1.fst : Int).toNat b)) = none
          intro n18
          intro q18 -- n18 = IntKind.i64.wrap ((↑v_1.fst : Int) + (1 : Int))
          rw [IntKind.wrap_i64] at q18
          intro ⟨l18, u18⟩ -- (-9223372036854775808 : Int) ≤ n18 ∧ n18 ≤ (9223372036854775807 : Int)
          refine ⟨(n18.toNat, (↑v_1.fst : Int), v_1.snd.snd), ?_⟩
          refine ⟨by first | with_reducible rfl | rfl, ?_⟩ -- b = b
          refine ⟨by first | with_reducible rfl | rfl, ?_⟩ -- (0 : Nat) = (0 : Nat)
          refine ⟨by first | with_reducible rfl | rfl, ?_⟩ -- v_1.snd.snd.length = v_1.snd.snd.length
          refine ⟨by first | with_reducible rfl | rfl, ?_⟩ -- (↑v_1.fst : Int) = (↑v_1.fst : Int)
          refine ⟨by show n18 = (↑n18.toNat : Int); omega, ?_⟩ -- n18 = (↑n18.toNat : Int)
          refine ⟨by first | with_reducible rfl | rfl, ?_⟩ -- v_1.snd.snd = v_1.snd.snd
          refine ⟨?_, ?_⟩
          · -- left
            refine ⟨by show n18.toNat ≤ b.length; omega, ?_⟩ -- n18.toNat ≤ b.length
            refine ⟨by show b.length ≤ (2200000 : Nat); assumption, ?_⟩ -- b.length ≤ (2200000 : Nat)
            refine ⟨by first | omega | (dsimp only; omega), ?_⟩ -- (-1 : Int) ≤ (↑v_1.fst : Int) ∧ (↑v_1.fst : Int) < (↑n18.toNat : Int)
            refine ⟨by show v_1.snd.snd.length ≤ n18.toNat; omega, ?_⟩ -- v_1.snd.snd.length ≤ n18.toNat
            -- AIn b n18.toNat v_1.snd.snd (↑v_1.fst : Int)
            have bx : n6 = ((b.getD v_1.fst 0).toNat : Int) := by rw [q6, Int.toNat_natCast]
            have x126 : b.getD v_1.fst 0 = 126 := byteE bx c3
            have pe : List.drop (v_1.snd.fst + 1).toNat (List.take v_1.fst b) = List.drop n14.toNat (List.take (v_1.fst : Int).toNat b) := by rw [Int.toNat_natCast, show n14 = v_1.snd.fst + 1 by omega]
            exact ain_no h1.2.2.2.2 (by omega) (by omega) rfl x126 (fun _ _ => by unfold pc; rw [pe, h6])
          exact by show b.length - n18.toNat < b.length - v_1.fst; omega -- b.length - n18.toNat < b.length - v_1.fst
        intro o_21
        intro n_22
        intro h7 -- bare (List.drop n14.toNat (List.take (↑v_1.fst : Int).toNat b)) = some o_21
        intro h8 -- o_21.length = n_22
        refine ⟨?_, ?_⟩
        · -- left
          intro h9 -- ¬okO (List.take n_22 (List.drop (0 : Nat) o_21))
          intro n26
          intro q26 -- n26 = IntKind.i64.wrap ((↑v_1.fst : Int) + (1 : Int))
          rw [IntKind.wrap_i64] at q26
          intro ⟨l26, u26⟩ -- (-9223372036854775808 : Int) ≤ n26 ∧ n26 ≤ (9223372036854775807 : Int)
          refine ⟨(n26.toNat, (↑v_1.fst : Int), v_1.snd.snd), ?_⟩
          refine ⟨by first | with_reducible rfl | rfl, ?_⟩ -- b = b
          refine ⟨by first | with_reducible rfl | rfl, ?_⟩ -- (0 : Nat) = (0 : Nat)
          refine ⟨by first | with_reducible rfl | rfl, ?_⟩ -- v_1.snd.snd.length = v_1.snd.snd.length
          refine ⟨by first | with_reducible rfl | rfl, ?_⟩ -- (↑v_1.fst : Int) = (↑v_1.fst : Int)
          refine ⟨by show n26 = (↑n26.toNat : Int); omega, ?_⟩ -- n26 = (↑n26.toNat : Int)
          refine ⟨by first | with_reducible rfl | rfl, ?_⟩ -- v_1.snd.snd = v_1.snd.snd
          refine ⟨?_, ?_⟩
          · -- left
            refine ⟨by show n26.toNat ≤ b.length; omega, ?_⟩ -- n26.toNat ≤ b.length
            refine ⟨by show b.length ≤ (2200000 : Nat); assumption, ?_⟩ -- b.length ≤ (2200000 : Nat)
            refine ⟨by first | omega | (dsimp only; omega), ?_⟩ -- (-1 : Int) ≤ (↑v_1.fst : Int) ∧ (↑v_1.fst : Int) < (↑n26.toNat : Int)
            refine ⟨by show v_1.snd.snd.length ≤ n26.toNat; omega, ?_⟩ -- v_1.snd.snd.length ≤ n26.toNat
            -- AIn b n26.toNat v_1.snd.snd (↑v_1.fst : Int)
            have bx : n6 = ((b.getD v_1.fst 0).toNat : Int) := by rw [q6, Int.toNat_natCast]
            have x126 : b.getD v_1.fst 0 = 126 := byteE bx c3
            have pe : List.drop (v_1.snd.fst + 1).toNat (List.take v_1.fst b) = List.drop n14.toNat (List.take (v_1.fst : Int).toNat b) := by rw [Int.toNat_natCast, show n14 = v_1.snd.fst + 1 by omega]
            have OE : List.take n_22 (List.drop 0 o_21) = o_21 := by rw [List.drop_zero, ← h8, List.take_length]
            rw [OE] at h9
            exact ain_no h1.2.2.2.2 (by omega) (by omega) rfl x126 (fun _ _ => by unfold pc; rw [pe, h7]; exact if_neg h9)
          exact by show b.length - n26.toNat < b.length - v_1.fst; omega -- b.length - n26.toNat < b.length - v_1.fst
        intro h10 -- (9 : Nat) ≤ (List.take n_22 (List.drop (0 : Nat) o_21)).length ∧ (List.take n_22 (List.drop (0 : Nat) o_21)).length ≤ (521 : Nat) ∧ sumN (List.take ((List.take n_22 (List.drop (0 : Nat) o_21)).length - (4 : Nat)) (List.take n_22 (List.drop (0 : Nat) o_21))) = getL (List.drop ((List.take n_22 (List.drop (0 : Nat) o_21)).length - (4 : Nat)) (List.take n_22 (List.drop (0 : Nat) o_21)))
        intro kd_30
        intro sq_31
        intro bo_32
        intro n_33
        intro h11 -- kd_30 = oK (List.take n_22 (List.drop (0 : Nat) o_21))
        intro h12 -- sq_31 = oS (List.take n_22 (List.drop (0 : Nat) o_21))
        intro h13 -- bo_32 = oB (List.take n_22 (List.drop (0 : Nat) o_21))
        intro h14 -- bo_32.length = n_33
        intro ⟨a15, b15⟩ -- (0 : Int) ≤ kd_30 ∧ kd_30 ≤ (255 : Int)
        intro ⟨a16, b16⟩ -- (0 : Int) ≤ sq_31 ∧ sq_31 ≤ (4294967295 : Int)
        refine ⟨by first | omega | (dsimp only; omega), ?_⟩ -- (v_1.snd.snd.length + (1 : Nat)) * (32 : Nat) ≤ (140737488355328 : Nat)
        intro z40
        intro qz40 -- z40 = List.take v_1.snd.snd.length v_1.snd.snd ++ List.take (1 : Nat) (List.drop (0 : Nat) [{ kind := UInt8.ofNat kd_30.toNat, seq := UInt32.ofNat sq_31.toNat, body := List.take n_33 (List.drop (0 : Nat) bo_32) : Msg }])
        intro n42
        intro q42 -- n42 = IntKind.i64.wrap ((↑v_1.fst : Int) + (1 : Int))
        rw [IntKind.wrap_i64] at q42
        intro ⟨l42, u42⟩ -- (-9223372036854775808 : Int) ≤ n42 ∧ n42 ≤ (9223372036854775807 : Int)
        refine ⟨(n42.toNat, (↑v_1.fst : Int), z40), ?_⟩
        refine ⟨by first | with_reducible rfl | rfl, ?_⟩ -- b = b
        refine ⟨by first | with_reducible rfl | rfl, ?_⟩ -- (0 : Nat) = (0 : Nat)
        have h17 : v_1.snd.snd.length + (1 : Nat) = z40.length := by
          rw [qz40]; simp
        refine ⟨h17, ?_⟩
        refine ⟨by first | with_reducible rfl | rfl, ?_⟩ -- (↑v_1.fst : Int) = (↑v_1.fst : Int)
        refine ⟨by show n42 = (↑n42.toNat : Int); omega, ?_⟩ -- n42 = (↑n42.toNat : Int)
        refine ⟨by first | with_reducible rfl | rfl, ?_⟩ -- z40 = z40
        refine ⟨?_, ?_⟩
        · -- left
          refine ⟨by show n42.toNat ≤ b.length; omega, ?_⟩ -- n42.toNat ≤ b.length
          refine ⟨by show b.length ≤ (2200000 : Nat); assumption, ?_⟩ -- b.length ≤ (2200000 : Nat)
          refine ⟨by first | omega | (dsimp only; omega), ?_⟩ -- (-1 : Int) ≤ (↑v_1.fst : Int) ∧ (↑v_1.fst : Int) < (↑n42.toNat : Int)
          refine ⟨by show z40.length ≤ n42.toNat; omega, ?_⟩ -- z40.length ≤ n42.toNat
          -- AIn b n42.toNat z40 (↑v_1.fst : Int)
          have bx : n6 = ((b.getD v_1.fst 0).toNat : Int) := by rw [q6, Int.toNat_natCast]
          have x126 : b.getD v_1.fst 0 = 126 := byteE bx c3
          have pe : List.drop (v_1.snd.fst + 1).toNat (List.take v_1.fst b) = List.drop n14.toNat (List.take (v_1.fst : Int).toNat b) := by rw [Int.toNat_natCast, show n14 = v_1.snd.fst + 1 by omega]
          have OE : List.take n_22 (List.drop 0 o_21) = o_21 := by rw [List.drop_zero, ← h8, List.take_length]
          have h10' : okO (List.take n_22 (List.drop 0 o_21)) := h10
          rw [OE] at h10' h11 h12 h13
          exact ain_yes h1.2.2.2.2 (t := (kd_30, sq_31, bo_32)) (by omega) (by omega) rfl x126 (by omega) (by unfold pc; rw [pe, h7, h11, h12, h13]; exact if_pos h10') (by rw [qz40, ← h14, List.drop_zero, List.drop_zero, List.take_length, List.take_length]; rfl)
        exact by show b.length - n42.toNat < b.length - v_1.fst; omega -- b.length - n42.toNat < b.length - v_1.fst
      · -- no
        simp at c4 -- (0 : Int) ≤ v_1.snd.fst → (1100 : Int) ≤ n12
        intro n45
        intro q45 -- n45 = IntKind.i64.wrap ((↑v_1.fst : Int) + (1 : Int))
        rw [IntKind.wrap_i64] at q45
        intro ⟨l45, u45⟩ -- (-9223372036854775808 : Int) ≤ n45 ∧ n45 ≤ (9223372036854775807 : Int)
        refine ⟨(n45.toNat, (↑v_1.fst : Int), v_1.snd.snd), ?_⟩
        refine ⟨by first | with_reducible rfl | rfl, ?_⟩ -- b = b
        refine ⟨by first | with_reducible rfl | rfl, ?_⟩ -- (0 : Nat) = (0 : Nat)
        refine ⟨by first | with_reducible rfl | rfl, ?_⟩ -- v_1.snd.snd.length = v_1.snd.snd.length
        refine ⟨by first | with_reducible rfl | rfl, ?_⟩ -- (↑v_1.fst : Int) = (↑v_1.fst : Int)
        refine ⟨by show n45 = (↑n45.toNat : Int); omega, ?_⟩ -- n45 = (↑n45.toNat : Int)
        refine ⟨by first | with_reducible rfl | rfl, ?_⟩ -- v_1.snd.snd = v_1.snd.snd
        refine ⟨?_, ?_⟩
        · -- left
          refine ⟨by show n45.toNat ≤ b.length; omega, ?_⟩ -- n45.toNat ≤ b.length
          refine ⟨by show b.length ≤ (2200000 : Nat); assumption, ?_⟩ -- b.length ≤ (2200000 : Nat)
          refine ⟨by first | omega | (dsimp only; omega), ?_⟩ -- (-1 : Int) ≤ (↑v_1.fst : Int) ∧ (↑v_1.fst : Int) < (↑n45.toNat : Int)
          refine ⟨by show v_1.snd.snd.length ≤ n45.toNat; omega, ?_⟩ -- v_1.snd.snd.length ≤ n45.toNat
          -- AIn b n45.toNat v_1.snd.snd (↑v_1.fst : Int)
          have bx : n6 = ((b.getD v_1.fst 0).toNat : Int) := by rw [q6, Int.toNat_natCast]
          have x126 : b.getD v_1.fst 0 = 126 := byteE bx c3
          exact ain_no h1.2.2.2.2 (by omega) (by omega) rfl x126 (fun d1 d2 => absurd (c4 d1) (by omega))
        exact by show b.length - n45.toNat < b.length - v_1.fst; omega -- b.length - n45.toNat < b.length - v_1.fst
  · -- no
    -- k (AV.tup [AV.row (8 : Nat) (0 : Nat) (0 : Nat) v_1.snd.snd.length, AV.int IntKind.i64 v_1.snd.fst]) [] [Blk.row (8 : Nat) v_1.snd.snd]
    have e : v_1.fst = b.length := by omega
    have f := h1.2.2.2.2
    rw [e] at f
    have f1 := f.c1
    have f2 := f.c2
    rw [List.take_length] at f1 f2
    exact hk _ _ _ f1 rfl f2 ⟨by omega, by omega⟩

theorem rall_ok : Holds Try.prog 26 allS := by
  refine fn_sound (env := mkEnv V1) (tab_ok V1_ok) Try.func26 Try.call26 fun args k h => ?_
  match args, h with
  | [.sl 0 b], h => exact ⟨by kernel_rfl, rallLoops b, fun _ _ => none, .cast (by kernel_rfl) (rall_vc b h.1 k h.2)⟩
set_option maxHeartbeats 2000000 in
theorem rallb_vc (q : Nat) (b : List UInt8) (hb : q = b.length ∧ b.length ≤ (2200000 : Nat)) (k : AV → List (Option Blk) → List Blk → Prop) (hk : ∀ (ys : List Msg) (m : Nat) (a : Int), ys = scan b → ys.length = m → a = lastE b → (-1 : Int) ≤ a ∧ a < (↑b.length : Int) → k (AV.tup [AV.row (8 : Nat) (1 : Nat) (0 : Nat) m, AV.int IntKind.i64 a]) [some (Blk.row (0 : Nat) b)] [Blk.row (8 : Nat) ys]) :
  (
   ∃ (v : Nat × Int × List Msg),
   ((0 : Nat) = (0 : Nat)) ∧
   (q = q) ∧
   ((0 : Nat) = (0 : Nat)) ∧
   ((0 : Nat) = v.snd.snd.length) ∧
   ((-1 : Int) = v.snd.fst) ∧
   ((0 : Int) = (↑v.fst : Int)) ∧
   (b = b) ∧
   ([] = v.snd.snd) ∧
   (v.fst ≤ b.length) ∧
   (
    (q = b.length) ∧
    (b.length ≤ (2200000 : Nat))) ∧
   (
    ((-1 : Int) ≤ v.snd.fst) ∧
    (v.snd.fst < (↑v.fst : Int))) ∧
   (v.snd.snd.length ≤ v.fst) ∧
   (AIn b v.fst v.snd.snd v.snd.fst)) ∧
  ∀ (v_1 : Nat × Int × List Msg),
  (v_1.fst ≤ b.length ∧ (q = b.length ∧ b.length ≤ (2200000 : Nat)) ∧ ((-1 : Int) ≤ v_1.snd.fst ∧ v_1.snd.fst < (↑v_1.fst : Int)) ∧ v_1.snd.snd.length ≤ v_1.fst ∧ AIn b v_1.fst v_1.snd.snd v_1.snd.fst) →
  ∀ (n3 : Int),
  (n3 = (↑q : Int)) →
  ((-9223372036854775808 : Int) ≤ n3 ∧ n3 ≤ (9223372036854775807 : Int)) →
  br (decide ((↑v_1.fst : Int) < n3))
   (((0 : Int) ≤ (↑v_1.fst : Int)) ∧
    ((↑v_1.fst : Int) < (↑q : Int)) ∧
    ((0 : Nat) + (↑v_1.fst : Int).toNat < b.length) ∧
    ∀ (n6 : Int),
    (n6 = (↑(b.getD ((0 : Nat) + (↑v_1.fst : Int).toNat) (0 : UInt8)).toNat : Int)) →
    ((0 : Int) ≤ n6 ∧ n6 ≤ (255 : Int)) →
    br (n6 != (126 : Int))
     (∀ (n9 : Int),
      (n9 = IntKind.i64.wrap ((↑v_1.fst : Int) + (1 : Int))) →
      ((-9223372036854775808 : Int) ≤ n9 ∧ n9 ≤ (9223372036854775807 : Int)) →
      ∃ (v' : Nat × Int × List Msg),
      ((0 : Nat) = (0 : Nat)) ∧
      (q = q) ∧
      ((0 : Nat) = (0 : Nat)) ∧
      (v_1.snd.snd.length = v'.snd.snd.length) ∧
      (v_1.snd.fst = v'.snd.fst) ∧
      (n9 = (↑v'.fst : Int)) ∧
      (b = b) ∧
      (v_1.snd.snd = v'.snd.snd) ∧
      (
       (v'.fst ≤ b.length) ∧
       (
        (q = b.length) ∧
        (b.length ≤ (2200000 : Nat))) ∧
       (
        ((-1 : Int) ≤ v'.snd.fst) ∧
        (v'.snd.fst < (↑v'.fst : Int))) ∧
       (v'.snd.snd.length ≤ v'.fst) ∧
       (AIn b v'.fst v'.snd.snd v'.snd.fst)) ∧
      (b.length - v'.fst < b.length - v_1.fst))
     (∀ (n12 : Int),
      (n12 = IntKind.i64.wrap ((↑v_1.fst : Int) - v_1.snd.fst)) →
      br (bif decide (v_1.snd.fst ≥ (0 : Int)) then decide (n12 < (1100 : Int)) else false)
       (∀ (n14 : Int),
        (n14 = IntKind.i64.wrap (v_1.snd.fst + (1 : Int))) →
        ((-9223372036854775808 : Int) ≤ n14 ∧ n14 ≤ (9223372036854775807 : Int)) →
        ((0 : Int) ≤ n14) ∧
        (n14 ≤ (↑v_1.fst : Int)) ∧
        ((↑v_1.fst : Int) ≤ (↑q : Int)) ∧
        ((List.take ((↑v_1.fst : Int).toNat - n14.toNat) (List.drop ((0 : Nat) + n14.toNat) b)).length ≤ (1000000 : Nat)) ∧
        (
         (bare (List.take ((↑v_1.fst : Int).toNat - n14.toNat) (List.drop ((0 : Nat) + n14.toNat) b)) = none) →
         ∀ (n18 : Int),
         (n18 = IntKind.i64.wrap ((↑v_1.fst : Int) + (1 : Int))) →
         ((-9223372036854775808 : Int) ≤ n18 ∧ n18 ≤ (9223372036854775807 : Int)) →
         ∃ (v' : Nat × Int × List Msg),
         ((0 : Nat) = (0 : Nat)) ∧
         (q = q) ∧
         ((0 : Nat) = (0 : Nat)) ∧
         (v_1.snd.snd.length = v'.snd.snd.length) ∧
         ((↑v_1.fst : Int) = v'.snd.fst) ∧
         (n18 = (↑v'.fst : Int)) ∧
         (b = b) ∧
         (v_1.snd.snd = v'.snd.snd) ∧
         (
          (v'.fst ≤ b.length) ∧
          (
           (q = b.length) ∧
           (b.length ≤ (2200000 : Nat))) ∧
          (
           ((-1 : Int) ≤ v'.snd.fst) ∧
           (v'.snd.fst < (↑v'.fst : Int))) ∧
          (v'.snd.snd.length ≤ v'.fst) ∧
          (AIn b v'.fst v'.snd.snd v'.snd.fst)) ∧
         (b.length - v'.fst < b.length - v_1.fst)) ∧
        ∀ (o_21 : List UInt8),
        ∀ (n_22 : Nat),
        (bare (List.take ((↑v_1.fst : Int).toNat - n14.toNat) (List.drop ((0 : Nat) + n14.toNat) b)) = some o_21) →
        (o_21.length = n_22) →
        (
         (¬okO (List.take n_22 (List.drop (0 : Nat) o_21))) →
         ∀ (n26 : Int),
         (n26 = IntKind.i64.wrap ((↑v_1.fst : Int) + (1 : Int))) →
         ((-9223372036854775808 : Int) ≤ n26 ∧ n26 ≤ (9223372036854775807 : Int)) →
         ∃ (v' : Nat × Int × List Msg),
         ((0 : Nat) = (0 : Nat)) ∧
         (q = q) ∧
         ((0 : Nat) = (0 : Nat)) ∧
         (v_1.snd.snd.length = v'.snd.snd.length) ∧
         ((↑v_1.fst : Int) = v'.snd.fst) ∧
         (n26 = (↑v'.fst : Int)) ∧
         (b = b) ∧
         (v_1.snd.snd = v'.snd.snd) ∧
         (
          (v'.fst ≤ b.length) ∧
          (
           (q = b.length) ∧
           (b.length ≤ (2200000 : Nat))) ∧
          (
           ((-1 : Int) ≤ v'.snd.fst) ∧
           (v'.snd.fst < (↑v'.fst : Int))) ∧
          (v'.snd.snd.length ≤ v'.fst) ∧
          (AIn b v'.fst v'.snd.snd v'.snd.fst)) ∧
         (b.length - v'.fst < b.length - v_1.fst)) ∧
        (((9 : Nat) ≤ (List.take n_22 (List.drop (0 : Nat) o_21)).length ∧ (List.take n_22 (List.drop (0 : Nat) o_21)).length ≤ (521 : Nat) ∧ sumN (List.take ((List.take n_22 (List.drop (0 : Nat) o_21)).length - (4 : Nat)) (List.take n_22 (List.drop (0 : Nat) o_21))) = getL (List.drop ((List.take n_22 (List.drop (0 : Nat) o_21)).length - (4 : Nat)) (List.take n_22 (List.drop (0 : Nat) o_21)))) →
        ∀ (kd_30 : Int),
        ∀ (sq_31 : Int),
        ∀ (bo_32 : List UInt8),
        ∀ (n_33 : Nat),
        (kd_30 = oK (List.take n_22 (List.drop (0 : Nat) o_21))) →
        (sq_31 = oS (List.take n_22 (List.drop (0 : Nat) o_21))) →
        (bo_32 = oB (List.take n_22 (List.drop (0 : Nat) o_21))) →
        (bo_32.length = n_33) →
        ((0 : Int) ≤ kd_30 ∧ kd_30 ≤ (255 : Int)) →
        ((0 : Int) ≤ sq_31 ∧ sq_31 ≤ (4294967295 : Int)) →
        ((v_1.snd.snd.length + (1 : Nat)) * (32 : Nat) ≤ (140737488355328 : Nat)) ∧
        ∀ (z40 : List Msg),
        (z40 = List.take v_1.snd.snd.length v_1.snd.snd ++ List.take (1 : Nat) (List.drop (0 : Nat) [{ kind := UInt8.ofNat kd_30.toNat, seq := UInt32.ofNat sq_31.toNat, body := List.take n_33 (List.drop (0 : Nat) bo_32) : Msg }])) →
        ∀ (n42 : Int),
        (n42 = IntKind.i64.wrap ((↑v_1.fst : Int) + (1 : Int))) →
        ((-9223372036854775808 : Int) ≤ n42 ∧ n42 ≤ (9223372036854775807 : Int)) →
        ∃ (v' : Nat × Int × List Msg),
        ((0 : Nat) = (0 : Nat)) ∧
        (q = q) ∧
        ((0 : Nat) = (0 : Nat)) ∧
        (v_1.snd.snd.length + (1 : Nat) = v'.snd.snd.length) ∧
        ((↑v_1.fst : Int) = v'.snd.fst) ∧
        (n42 = (↑v'.fst : Int)) ∧
        (b = b) ∧
        (z40 = v'.snd.snd) ∧
        (
         (v'.fst ≤ b.length) ∧
         (
          (q = b.length) ∧
          (b.length ≤ (2200000 : Nat))) ∧
         (
          ((-1 : Int) ≤ v'.snd.fst) ∧
          (v'.snd.fst < (↑v'.fst : Int))) ∧
         (v'.snd.snd.length ≤ v'.fst) ∧
         (AIn b v'.fst v'.snd.snd v'.snd.fst)) ∧
        (b.length - v'.fst < b.length - v_1.fst)))
       (∀ (n45 : Int),
        (n45 = IntKind.i64.wrap ((↑v_1.fst : Int) + (1 : Int))) →
        ((-9223372036854775808 : Int) ≤ n45 ∧ n45 ≤ (9223372036854775807 : Int)) →
        ∃ (v' : Nat × Int × List Msg),
        ((0 : Nat) = (0 : Nat)) ∧
        (q = q) ∧
        ((0 : Nat) = (0 : Nat)) ∧
        (v_1.snd.snd.length = v'.snd.snd.length) ∧
        ((↑v_1.fst : Int) = v'.snd.fst) ∧
        (n45 = (↑v'.fst : Int)) ∧
        (b = b) ∧
        (v_1.snd.snd = v'.snd.snd) ∧
        (
         (v'.fst ≤ b.length) ∧
         (
          (q = b.length) ∧
          (b.length ≤ (2200000 : Nat))) ∧
         (
          ((-1 : Int) ≤ v'.snd.fst) ∧
          (v'.snd.fst < (↑v'.fst : Int))) ∧
         (v'.snd.snd.length ≤ v'.fst) ∧
         (AIn b v'.fst v'.snd.snd v'.snd.fst)) ∧
        (b.length - v'.fst < b.length - v_1.fst))))
   ((k (AV.tup [AV.row (8 : Nat) (1 : Nat) (0 : Nat) v_1.snd.snd.length, AV.int IntKind.i64 v_1.snd.fst]) [some (Blk.row (0 : Nat) b)] [Blk.row (8 : Nat) v_1.snd.snd])) := by
  refine ⟨?_, ?_⟩
  · -- left
    refine ⟨(Int.toNat (0 : Int), (-1 : Int), []), ?_⟩
    refine ⟨by first | with_reducible rfl | rfl, ?_⟩ -- (0 : Nat) = (0 : Nat)
    refine ⟨by first | with_reducible rfl | rfl, ?_⟩ -- q = q
    refine ⟨by first | with_reducible rfl | rfl, ?_⟩ -- (0 : Nat) = (0 : Nat)
    refine ⟨by first | with_reducible rfl | rfl, ?_⟩ -- (0 : Nat) = (0 : Nat)
    refine ⟨by first | with_reducible rfl | rfl, ?_⟩ -- (-1 : Int) = (-1 : Int)
    refine ⟨by show (0 : Int) = (↑(Int.toNat (0 : Int)) : Int); omega, ?_⟩ -- (0 : Int) = (↑(Int.toNat (0 : Int)) : Int)
    refine ⟨by first | with_reducible rfl | rfl, ?_⟩ -- b = b
    refine ⟨by first | with_reducible rfl | rfl, ?_⟩ -- [] = []
    refine ⟨by show Int.toNat (0 : Int) ≤ b.length; omega, ?_⟩ -- Int.toNat (0 : Int) ≤ b.length
    refine ⟨by first | omega | (dsimp only; omega), ?_⟩ -- q = b.length ∧ b.length ≤ (2200000 : Nat)
    refine ⟨by first | omega | (dsimp only; omega), ?_⟩ -- (-1 : Int) ≤ (-1 : Int) ∧ (-1 : Int) < (↑(Int.toNat (0 : Int)) : Int)
    refine ⟨by show (0 : Nat) ≤ Int.toNat (0 : Int); omega, ?_⟩ -- (0 : Nat) ≤ Int.toNat (0 : Int)
    -- AIn b (Int.toNat (0 : Int)) [] (-1 : Int)
    exact ain_0 b
  intro v_1
  intro h1 -- v_1.fst ≤ b.length ∧ (q = b.length ∧ b.length ≤ (2200000 : Nat)) ∧ ((-1 : Int) ≤ v_1.snd.fst ∧ v_1.snd.fst < (↑v_1.fst : Int)) ∧ v_1.snd.snd.length ≤ v_1.fst ∧ AIn b v_1.fst v_1.snd.snd v_1.snd.fst
  intro n3
  intro q3 -- n3 = (↑q : Int)
  intro ⟨l3, u3⟩ -- (-9223372036854775808 : Int) ≤ n3 ∧ n3 ≤ (9223372036854775807 : Int)
  refine brd (fun c2 => ?_) (fun c2 => ?_) -- decide ((↑v_1.fst : Int) < n3)
  · -- yes
    refine ⟨by first | omega | (dsimp only; omega), ?_⟩ -- (0 : Int) ≤ (↑v_1.fst : Int)
    refine ⟨by first | omega | (dsimp only; omega), ?_⟩ -- (↑v_1.fst : Int) < (↑q : Int)
    refine ⟨by first | omega | (dsimp only; omega), ?_⟩ -- (0 : Nat) + (↑v_1.fst : Int).toNat < b.length
    intro n6
    intro q6 -- n6 = (↑(b.getD ((0 : Nat) + (↑v_1.fst : Int).toNat) (0 : UInt8)).toNat : Int)
    intro ⟨l6, u6⟩ -- (0 : Int) ≤ n6 ∧ n6 ≤ (255 : Int)
    refine br_intro (fun c3 => ?_) (fun c3 => ?_) -- n6 != (126 : Int)
    · -- yes
      simp at c3 -- ¬n6 = (126 : Int)
      intro n9
      intro q9 -- n9 = IntKind.i64.wrap ((↑v_1.fst : Int) + (1 : Int))
      rw [IntKind.wrap_i64] at q9
      intro ⟨l9, u9⟩ -- (-9223372036854775808 : Int) ≤ n9 ∧ n9 ≤ (9223372036854775807 : Int)
      refine ⟨(n9.toNat, v_1.snd.fst, v_1.snd.snd), ?_⟩
      refine ⟨by first | with_reducible rfl | rfl, ?_⟩ -- (0 : Nat) = (0 : Nat)
      refine ⟨by first | with_reducible rfl | rfl, ?_⟩ -- q = q
      refine ⟨by first | with_reducible rfl | rfl, ?_⟩ -- (0 : Nat) = (0 : Nat)
      refine ⟨by first | with_reducible rfl | rfl, ?_⟩ -- v_1.snd.snd.length = v_1.snd.snd.length
      refine ⟨by first | with_reducible rfl | rfl, ?_⟩ -- v_1.snd.fst = v_1.snd.fst
      refine ⟨by show n9 = (↑n9.toNat : Int); omega, ?_⟩ -- n9 = (↑n9.toNat : Int)
      refine ⟨by first | with_reducible rfl | rfl, ?_⟩ -- b = b
      refine ⟨by first | with_reducible rfl | rfl, ?_⟩ -- v_1.snd.snd = v_1.snd.snd
      refine ⟨?_, ?_⟩
      · -- left
        refine ⟨by show n9.toNat ≤ b.length; omega, ?_⟩ -- n9.toNat ≤ b.length
        refine ⟨by first | omega | (dsimp only; omega), ?_⟩ -- q = b.length ∧ b.length ≤ (2200000 : Nat)
        refine ⟨by first | omega | (dsimp only; omega), ?_⟩ -- (-1 : Int) ≤ v_1.snd.fst ∧ v_1.snd.fst < (↑n9.toNat : Int)
        refine ⟨by show v_1.snd.snd.length ≤ n9.toNat; omega, ?_⟩ -- v_1.snd.snd.length ≤ n9.toNat
        -- AIn b n9.toNat v_1.snd.snd v_1.snd.fst
        have bx : n6 = ((b.getD v_1.fst 0).toNat : Int) := by rw [q6, Int.toNat_natCast, Nat.zero_add]
        have x0 : b.getD v_1.fst 0 ≠ 126 := fun e => c3 (by rw [bx, e]; rfl)
        exact ain_oth h1.2.2.2.2 (by omega) (by omega) x0
      exact by show b.length - n9.toNat < b.length - v_1.fst; omega -- b.length - n9.toNat < b.length - v_1.fst
    · -- no
      simp at c3 -- n6 = (126 : Int)
      intro n12
      intro q12 -- n12 = IntKind.i64.wrap ((↑v_1.fst : Int) - v_1.snd.fst)
      rw [IntKind.wrap_i64] at q12
      refine br_intro (fun c4 => ?_) (fun c4 => ?_) -- bif decide (v_1.snd.fst ≥ (0 : Int)) then decide (n12 < (1100 : Int)) else false
      · -- yes
        simp at c4 -- (0 : Int) ≤ v_1.snd.fst ∧ n12 < (1100 : Int)
        intro n14
        intro q14 -- n14 = IntKind.i64.wrap (v_1.snd.fst + (1 : Int))
        rw [IntKind.wrap_i64] at q14
        intro ⟨l14, u14⟩ -- (-9223372036854775808 : Int) ≤ n14 ∧ n14 ≤ (9223372036854775807 : Int)
        refine ⟨by first | omega | (dsimp only; omega), ?_⟩ -- (0 : Int) ≤ n14
        refine ⟨by first | omega | (dsimp only; omega), ?_⟩ -- n14 ≤ (↑v_1.fst : Int)
        refine ⟨by first | omega | (dsimp only; omega), ?_⟩ -- (↑v_1.fst : Int) ≤ (↑q : Int)
        have h5 : (List.take ((↑v_1.fst : Int).toNat - n14.toNat) (List.drop ((0 : Nat) + n14.toNat) b)).length ≤ (1000000 : Nat) := by
          rw [List.length_take, List.length_drop]; omega
        refine ⟨h5, ?_⟩
        refine ⟨?_, ?_⟩
        · -- left
          intro h6 -- bare (List.take ((↑v_1.fst : Int).toNat - n14.toNat) (List.drop ((0 : Nat) + n14.toNat) b)) = none
          intro n18
          intro q18 -- n18 = IntKind.i64.wrap ((↑v_1.fst : Int) + (1 : Int))
          rw [IntKind.wrap_i64] at q18
          intro ⟨l18, u18⟩ -- (-9223372036854775808 : Int) ≤ n18 ∧ n18 ≤ (9223372036854775807 : Int)
          refine ⟨(n18.toNat, (↑v_1.fst : Int), v_1.snd.snd), ?_⟩
          refine ⟨by first | with_reducible rfl | rfl, ?_⟩ -- (0 : Nat) = (0 : Nat)
          refine ⟨by first | with_reducible rfl | rfl, ?_⟩ -- q = q
          refine ⟨by first | with_reducible rfl | rfl, ?_⟩ -- (0 : Nat) = (0 : Nat)
          refine ⟨by first | with_reducible rfl | rfl, ?_⟩ -- v_1.snd.snd.length = v_1.snd.snd.length
          refine ⟨by first | with_reducible rfl | rfl, ?_⟩ -- (↑v_1.fst : Int) = (↑v_1.fst : Int)
          refine ⟨by show n18 = (↑n18.toNat : Int); omega, ?_⟩ -- n18 = (↑n18.toNat : Int)
          refine ⟨by first | with_reducible rfl | rfl, ?_⟩ -- b = b
          refine ⟨by first | with_reducible rfl | rfl, ?_⟩ -- v_1.snd.snd = v_1.snd.snd
          refine ⟨?_, ?_⟩
          · -- left
            refine ⟨by show n18.toNat ≤ b.length; omega, ?_⟩ -- n18.toNat ≤ b.length
            refine ⟨by first | omega | (dsimp only; omega), ?_⟩ -- q = b.length ∧ b.length ≤ (2200000 : Nat)
            refine ⟨by first | omega | (dsimp only; omega), ?_⟩ -- (-1 : Int) ≤ (↑v_1.fst : Int) ∧ (↑v_1.fst : Int) < (↑n18.toNat : Int)
            refine ⟨by show v_1.snd.snd.length ≤ n18.toNat; omega, ?_⟩ -- v_1.snd.snd.length ≤ n18.toNat
            -- AIn b n18.toNat v_1.snd.snd (↑v_1.fst : Int)
            have bx : n6 = ((b.getD v_1.fst 0).toNat : Int) := by rw [q6, Int.toNat_natCast, Nat.zero_add]
            have x126 : b.getD v_1.fst 0 = 126 := byteE bx c3
            have pe : List.drop (v_1.snd.fst + 1).toNat (List.take v_1.fst b) = List.take ((v_1.fst : Int).toNat - n14.toNat) (List.drop (0 + n14.toNat) b) := by rw [Int.toNat_natCast, Nat.zero_add, show n14 = v_1.snd.fst + 1 by omega, List.drop_take]
            exact ain_no h1.2.2.2.2 (by omega) (by omega) rfl x126 (fun _ _ => by unfold pc; rw [pe, h6])
          exact by show b.length - n18.toNat < b.length - v_1.fst; omega -- b.length - n18.toNat < b.length - v_1.fst
        intro o_21
        intro n_22
        intro h7 -- bare (List.take ((↑v_1.fst : Int).toNat - n14.toNat) (List.drop ((0 : Nat) + n14.toNat) b)) = some o_21
        intro h8 -- o_21.length = n_22
        refine ⟨?_, ?_⟩
        · -- left
          intro h9 -- ¬okO (List.take n_22 (List.drop (0 : Nat) o_21))
          intro n26
          intro q26 -- n26 = IntKind.i64.wrap ((↑v_1.fst : Int) + (1 : Int))
          rw [IntKind.wrap_i64] at q26
          intro ⟨l26, u26⟩ -- (-9223372036854775808 : Int) ≤ n26 ∧ n26 ≤ (9223372036854775807 : Int)
          refine ⟨(n26.toNat, (↑v_1.fst : Int), v_1.snd.snd), ?_⟩
          refine ⟨by first | with_reducible rfl | rfl, ?_⟩ -- (0 : Nat) = (0 : Nat)
          refine ⟨by first | with_reducible rfl | rfl, ?_⟩ -- q = q
          refine ⟨by first | with_reducible rfl | rfl, ?_⟩ -- (0 : Nat) = (0 : Nat)
          refine ⟨by first | with_reducible rfl | rfl, ?_⟩ -- v_1.snd.snd.length = v_1.snd.snd.length
          refine ⟨by first | with_reducible rfl | rfl, ?_⟩ -- (↑v_1.fst : Int) = (↑v_1.fst : Int)
          refine ⟨by show n26 = (↑n26.toNat : Int); omega, ?_⟩ -- n26 = (↑n26.toNat : Int)
          refine ⟨by first | with_reducible rfl | rfl, ?_⟩ -- b = b
          refine ⟨by first | with_reducible rfl | rfl, ?_⟩ -- v_1.snd.snd = v_1.snd.snd
          refine ⟨?_, ?_⟩
          · -- left
            refine ⟨by show n26.toNat ≤ b.length; omega, ?_⟩ -- n26.toNat ≤ b.length
            refine ⟨by first | omega | (dsimp only; omega), ?_⟩ -- q = b.length ∧ b.length ≤ (2200000 : Nat)
            refine ⟨by first | omega | (dsimp only; omega), ?_⟩ -- (-1 : Int) ≤ (↑v_1.fst : Int) ∧ (↑v_1.fst : Int) < (↑n26.toNat : Int)
            refine ⟨by show v_1.snd.snd.length ≤ n26.toNat; omega, ?_⟩ -- v_1.snd.snd.length ≤ n26.toNat
            -- AIn b n26.toNat v_1.snd.snd (↑v_1.fst : Int)
            have bx : n6 = ((b.getD v_1.fst 0).toNat : Int) := by rw [q6, Int.toNat_natCast, Nat.zero_add]
            have x126 : b.getD v_1.fst 0 = 126 := byteE bx c3
            have pe : List.drop (v_1.snd.fst + 1).toNat (List.take v_1.fst b) = List.take ((v_1.fst : Int).toNat - n14.toNat) (List.drop (0 + n14.toNat) b) := by rw [Int.toNat_natCast, Nat.zero_add, show n14 = v_1.snd.fst + 1 by omega, List.drop_take]
            have OE : List.take n_22 (List.drop 0 o_21) = o_21 := by rw [List.drop_zero, ← h8, List.take_length]
            rw [OE] at h9
            exact ain_no h1.2.2.2.2 (by omega) (by omega) rfl x126 (fun _ _ => by unfold pc; rw [pe, h7]; exact if_neg h9)
          exact by show b.length - n26.toNat < b.length - v_1.fst; omega -- b.length - n26.toNat < b.length - v_1.fst
        intro h10 -- (9 : Nat) ≤ (List.take n_22 (List.drop (0 : Nat) o_21)).length ∧ (List.take n_22 (List.drop (0 : Nat) o_21)).length ≤ (521 : Nat) ∧ sumN (List.take ((List.take n_22 (List.drop (0 : Nat) o_21)).length - (4 : Nat)) (List.take n_22 (List.drop (0 : Nat) o_21))) = getL (List.drop ((List.take n_22 (List.drop (0 : Nat) o_21)).length - (4 : Nat)) (List.take n_22 (List.drop (0 : Nat) o_21)))
        intro kd_30
        intro sq_31
        intro bo_32
        intro n_33
        intro h11 -- kd_30 = oK (List.take n_22 (List.drop (0 : Nat) o_21))
        intro h12 -- sq_31 = oS (List.take n_22 (List.drop (0 : Nat) o_21))
        intro h13 -- bo_32 = oB (List.take n_22 (List.drop (0 : Nat) o_21))
        intro h14 -- bo_32.length = n_33
        intro ⟨a15, b15⟩ -- (0 : Int) ≤ kd_30 ∧ kd_30 ≤ (255 : Int)
        intro ⟨a16, b16⟩ -- (0 : Int) ≤ sq_31 ∧ sq_31 ≤ (4294967295 : Int)
        refine ⟨by first | omega | (dsimp only; omega), ?_⟩ -- (v_1.snd.snd.length + (1 : Nat)) * (32 : Nat) ≤ (140737488355328 : Nat)
        intro z40
        intro qz40 -- z40 = List.take v_1.snd.snd.length v_1.snd.snd ++ List.take (1 : Nat) (List.drop (0 : Nat) [{ kind := UInt8.ofNat kd_30.toNat, seq := UInt32.ofNat sq_31.toNat, body := List.take n_33 (List.drop (0 : Nat) bo_32) : Msg }])
        intro n42
        intro q42 -- n42 = IntKind.i64.wrap ((↑v_1.fst : Int) + (1 : Int))
        rw [IntKind.wrap_i64] at q42
        intro ⟨l42, u42⟩ -- (-9223372036854775808 : Int) ≤ n42 ∧ n42 ≤ (9223372036854775807 : Int)
        refine ⟨(n42.toNat, (↑v_1.fst : Int), z40), ?_⟩
        refine ⟨by first | with_reducible rfl | rfl, ?_⟩ -- (0 : Nat) = (0 : Nat)
        refine ⟨by first | with_reducible rfl | rfl, ?_⟩ -- q = q
        refine ⟨by first | with_reducible rfl | rfl, ?_⟩ -- (0 : Nat) = (0 : Nat)
        have h17 : v_1.snd.snd.length + (1 : Nat) = z40.length := by
          rw [qz40]; simp
        refine ⟨h17, ?_⟩
        refine ⟨by first | with_reducible rfl | rfl, ?_⟩ -- (↑v_1.fst : Int) = (↑v_1.fst : Int)
        refine ⟨by show n42 = (↑n42.toNat : Int); omega, ?_⟩ -- n42 = (↑n42.toNat : Int)
        refine ⟨by first | with_reducible rfl | rfl, ?_⟩ -- b = b
        refine ⟨by first | with_reducible rfl | rfl, ?_⟩ -- z40 = z40
        refine ⟨?_, ?_⟩
        · -- left
          refine ⟨by show n42.toNat ≤ b.length; omega, ?_⟩ -- n42.toNat ≤ b.length
          refine ⟨by first | omega | (dsimp only; omega), ?_⟩ -- q = b.length ∧ b.length ≤ (2200000 : Nat)
          refine ⟨by first | omega | (dsimp only; omega), ?_⟩ -- (-1 : Int) ≤ (↑v_1.fst : Int) ∧ (↑v_1.fst : Int) < (↑n42.toNat : Int)
          refine ⟨by show z40.length ≤ n42.toNat; omega, ?_⟩ -- z40.length ≤ n42.toNat
          -- AIn b n42.toNat z40 (↑v_1.fst : Int)
          have bx : n6 = ((b.getD v_1.fst 0).toNat : Int) := by rw [q6, Int.toNat_natCast, Nat.zero_add]
          have x126 : b.getD v_1.fst 0 = 126 := byteE bx c3
          have pe : List.drop (v_1.snd.fst + 1).toNat (List.take v_1.fst b) = List.take ((v_1.fst : Int).toNat - n14.toNat) (List.drop (0 + n14.toNat) b) := by rw [Int.toNat_natCast, Nat.zero_add, show n14 = v_1.snd.fst + 1 by omega, List.drop_take]
          have OE : List.take n_22 (List.drop 0 o_21) = o_21 := by rw [List.drop_zero, ← h8, List.take_length]
          have h10' : okO (List.take n_22 (List.drop 0 o_21)) := h10
          rw [OE] at h10' h11 h12 h13
          exact ain_yes h1.2.2.2.2 (t := (kd_30, sq_31, bo_32)) (by omega) (by omega) rfl x126 (by omega) (by unfold pc; rw [pe, h7, h11, h12, h13]; exact if_pos h10') (by rw [qz40, ← h14, List.drop_zero, List.drop_zero, List.take_length, List.take_length]; rfl)
        exact by show b.length - n42.toNat < b.length - v_1.fst; omega -- b.length - n42.toNat < b.length - v_1.fst
      · -- no
        simp at c4 -- (0 : Int) ≤ v_1.snd.fst → (1100 : Int) ≤ n12
        intro n45
        intro q45 -- n45 = IntKind.i64.wrap ((↑v_1.fst : Int) + (1 : Int))
        rw [IntKind.wrap_i64] at q45
        intro ⟨l45, u45⟩ -- (-9223372036854775808 : Int) ≤ n45 ∧ n45 ≤ (9223372036854775807 : Int)
        refine ⟨(n45.toNat, (↑v_1.fst : Int), v_1.snd.snd), ?_⟩
        refine ⟨by first | with_reducible rfl | rfl, ?_⟩ -- (0 : Nat) = (0 : Nat)
        refine ⟨by first | with_reducible rfl | rfl, ?_⟩ -- q = q
        refine ⟨by first | with_reducible rfl | rfl, ?_⟩ -- (0 : Nat) = (0 : Nat)
        refine ⟨by first | with_reducible rfl | rfl, ?_⟩ -- v_1.snd.snd.length = v_1.snd.snd.length
        refine ⟨by first | with_reducible rfl | rfl, ?_⟩ -- (↑v_1.fst : Int) = (↑v_1.fst : Int)
        refine ⟨by show n45 = (↑n45.toNat : Int); omega, ?_⟩ -- n45 = (↑n45.toNat : Int)
        refine ⟨by first | with_reducible rfl | rfl, ?_⟩ -- b = b
        refine ⟨by first | with_reducible rfl | rfl, ?_⟩ -- v_1.snd.snd = v_1.snd.snd
        refine ⟨?_, ?_⟩
        · -- left
          refine ⟨by show n45.toNat ≤ b.length; omega, ?_⟩ -- n45.toNat ≤ b.length
          refine ⟨by first | omega | (dsimp only; omega), ?_⟩ -- q = b.length ∧ b.length ≤ (2200000 : Nat)
          refine ⟨by first | omega | (dsimp only; omega), ?_⟩ -- (-1 : Int) ≤ (↑v_1.fst : Int) ∧ (↑v_1.fst : Int) < (↑n45.toNat : Int)
          refine ⟨by show v_1.snd.snd.length ≤ n45.toNat; omega, ?_⟩ -- v_1.snd.snd.length ≤ n45.toNat
          -- AIn b n45.toNat v_1.snd.snd (↑v_1.fst : Int)
          have bx : n6 = ((b.getD v_1.fst 0).toNat : Int) := by rw [q6, Int.toNat_natCast, Nat.zero_add]
          have x126 : b.getD v_1.fst 0 = 126 := byteE bx c3
          exact ain_no h1.2.2.2.2 (by omega) (by omega) rfl x126 (fun d1 d2 => absurd (c4 d1) (by omega))
        exact by show b.length - n45.toNat < b.length - v_1.fst; omega -- b.length - n45.toNat < b.length - v_1.fst
  · -- no
    -- k (AV.tup [AV.row (8 : Nat) (1 : Nat) (0 : Nat) v_1.snd.snd.length, AV.int IntKind.i64 v_1.snd.fst]) [some (Blk.row (0 : Nat) b)] [Blk.row (8 : Nat) v_1.snd.snd]
    have e : v_1.fst = b.length := by omega
    have f := h1.2.2.2.2
    rw [e] at f
    have f1 := f.c1
    have f2 := f.c2
    rw [List.take_length] at f1 f2
    exact hk _ _ _ f1 rfl f2 ⟨by omega, by omega⟩

theorem rallb_ok : Holds Try.prog 26 allB := by
  refine fn_soundB (env := mkEnv V1) (tab_ok V1_ok) Try.func26 Try.call26 (fun args B k h => ?_) (by decide)
  unfold allB at h
  dsimp only at h
  split at h
  · rename_i q b
    exact ⟨by kernel_rfl, rallBLoops q b, fun _ _ => none, .cast (by kernel_rfl) (rallb_vc q b h.1 k h.2)⟩
  · exact h.elim
theorem V2_ok : TabOk Try.prog V2 := ⟨rall_ok, trivial⟩
set_option maxHeartbeats 2000000 in
theorem rscan_vc (b : List UInt8) (k : AV → List (Option Blk) → List Blk → Prop) (hk : ((16384 : Nat) < b.length → k (AV.tup [AV.nilsl, AV.int IntKind.i64 (0 : Int), AV.int IntKind.i64 (3 : Int)]) [] []) ∧ (b.length ≤ (16384 : Nat) → ∀ (ys : List Msg) (m : Nat) (a : Int), ys = scan b → ys.length = m → a = lastE b → (-1 : Int) ≤ a ∧ a < (↑b.length : Int) → k (AV.tup [AV.row (8 : Nat) (0 : Nat) (0 : Nat) m, AV.int IntKind.i64 a, AV.int IntKind.i64 (0 : Int)]) [] [Blk.row (8 : Nat) ys])) :
  ∀ (n1 : Int),
  (n1 = (↑b.length : Int)) →
  ((-9223372036854775808 : Int) ≤ n1 ∧ n1 ≤ (9223372036854775807 : Int)) →
  br (decide (n1 > (16384 : Int)))
   ((k (AV.tup [AV.nilsl, AV.int IntKind.i64 (0 : Int), AV.int IntKind.i64 (3 : Int)]) [] []))
   ((b.length ≤ (2200000 : Nat)) ∧
    ∀ (ys_4 : List Msg),
    ∀ (m_5 : Nat),
    ∀ (a_6 : Int),
    (ys_4 = scan b) →
    (ys_4.length = m_5) →
    (a_6 = lastE b) →
    ((-1 : Int) ≤ a_6 ∧ a_6 < (↑b.length : Int)) →
    (k (AV.tup [AV.row (8 : Nat) (0 : Nat) (0 : Nat) m_5, AV.int IntKind.i64 a_6, AV.int IntKind.i64 (0 : Int)]) [] [Blk.row (8 : Nat) ys_4])) := by
  intro n1
  intro q1 -- n1 = (↑b.length : Int)
  intro ⟨l1, u1⟩ -- (-9223372036854775808 : Int) ≤ n1 ∧ n1 ≤ (9223372036854775807 : Int)
  refine brd (fun c1 => ?_) (fun c1 => ?_) -- decide (n1 > (16384 : Int))
  · -- yes
    -- k (AV.tup [AV.nilsl, AV.int IntKind.i64 (0 : Int), AV.int IntKind.i64 (3 : Int)]) [] []
    exact hk.1 (by omega)
  · -- no
    refine ⟨by first | omega | (dsimp only; omega), ?_⟩ -- b.length ≤ (2200000 : Nat)
    intro ys_4
    intro m_5
    intro a_6
    intro h2 -- ys_4 = scan b
    intro h3 -- ys_4.length = m_5
    intro h4 -- a_6 = lastE b
    intro ⟨a5, b5⟩ -- (-1 : Int) ≤ a_6 ∧ a_6 < (↑b.length : Int)
    -- k (AV.tup [AV.row (8 : Nat) (0 : Nat) (0 : Nat) m_5, AV.int IntKind.i64 a_6, AV.int IntKind.i64 (0 : Int)]) [] [Blk.row (8 : Nat) ys_4]
    exact hk.2 (by omega) _ _ _ h2 h3 h4 ⟨by omega, by omega⟩

theorem rscan_ok : Holds Try.prog 22 scanS := by
  refine fn_sound (env := mkEnv V2) (tab_ok V2_ok) Try.func22 Try.call22 fun args k h => ?_
  match args, h with
  | [.sl 0 b], h => exact ⟨by kernel_rfl, fun _ _ => none, fun _ _ => none, .cast (by kernel_rfl) (rscan_vc b k h)⟩
set_option maxHeartbeats 2000000 in
theorem rsameall_vc (l : List Msg) (m : List Msg) (k : AV → List (Option Blk) → List Blk → Prop) (hk : ∀ (r : Bool), (r = true ↔ l = m) → k (AV.bool r) [] []) :
  ∀ (n1 : Int),
  (n1 = (↑l.length : Int)) →
  ((-9223372036854775808 : Int) ≤ n1 ∧ n1 ≤ (9223372036854775807 : Int)) →
  ∀ (n4 : Int),
  (n4 = (↑m.length : Int)) →
  ((-9223372036854775808 : Int) ≤ n4 ∧ n4 ≤ (9223372036854775807 : Int)) →
  br (n1 != n4)
   ((k (AV.bool false) [] []))
   ((
     ∃ (v : Nat),
     (l = l) ∧
     (m = m) ∧
     ((0 : Int) = (↑v : Int)) ∧
     (v ≤ l.length) ∧
     (l.length = m.length) ∧
     (eqU l m v)) ∧
    ∀ (v_7 : Nat),
    (v_7 ≤ l.length ∧ l.length = m.length ∧ eqU l m v_7) →
    ∀ (n9 : Int),
    (n9 = (↑l.length : Int)) →
    ((-9223372036854775808 : Int) ≤ n9 ∧ n9 ≤ (9223372036854775807 : Int)) →
    br (decide ((↑v_7 : Int) < n9))
     (((0 : Int) ≤ (↑v_7 : Int)) ∧
      ((↑v_7 : Int) < (↑l.length : Int)) ∧
      ((0 : Int) ≤ (↑v_7 : Int)) ∧
      ((↑v_7 : Int) < (↑m.length : Int)) ∧
      (
       ((0 : Int) ≤ (↑(l.getD (↑v_7 : Int).toNat (dflt (8 : Nat))).kind.toNat : Int)) ∧
       ((↑(l.getD (↑v_7 : Int).toNat (dflt (8 : Nat))).kind.toNat : Int) ≤ (255 : Int))) ∧
      (
       ((0 : Int) ≤ (↑(l.getD (↑v_7 : Int).toNat (dflt (8 : Nat))).seq.toNat : Int)) ∧
       ((↑(l.getD (↑v_7 : Int).toNat (dflt (8 : Nat))).seq.toNat : Int) ≤ (4294967295 : Int))) ∧
      (
       ((0 : Int) ≤ (↑(m.getD (↑v_7 : Int).toNat (dflt (8 : Nat))).kind.toNat : Int)) ∧
       ((↑(m.getD (↑v_7 : Int).toNat (dflt (8 : Nat))).kind.toNat : Int) ≤ (255 : Int))) ∧
      (
       ((0 : Int) ≤ (↑(m.getD (↑v_7 : Int).toNat (dflt (8 : Nat))).seq.toNat : Int)) ∧
       ((↑(m.getD (↑v_7 : Int).toNat (dflt (8 : Nat))).seq.toNat : Int) ≤ (4294967295 : Int))) ∧
      ∀ (r_12 : Bool),
      (r_12 = true ↔ (↑(l.getD (↑v_7 : Int).toNat (dflt (8 : Nat))).kind.toNat : Int) = (↑(m.getD (↑v_7 : Int).toNat (dflt (8 : Nat))).kind.toNat : Int) ∧ (↑(l.getD (↑v_7 : Int).toNat (dflt (8 : Nat))).seq.toNat : Int) = (↑(m.getD (↑v_7 : Int).toNat (dflt (8 : Nat))).seq.toNat : Int) ∧ (l.getD (↑v_7 : Int).toNat (dflt (8 : Nat))).body = (m.getD (↑v_7 : Int).toNat (dflt (8 : Nat))).body) →
      br (!r_12)
       ((k (AV.bool false) [] []))
       (∀ (n14 : Int),
        (n14 = IntKind.i64.wrap ((↑v_7 : Int) + (1 : Int))) →
        ((-9223372036854775808 : Int) ≤ n14 ∧ n14 ≤ (9223372036854775807 : Int)) →
        ∃ (v' : Nat),
        (l = l) ∧
        (m = m) ∧
        (n14 = (↑v' : Int)) ∧
        (
         (v' ≤ l.length) ∧
         (l.length = m.length) ∧
         (eqU l m v')) ∧
        (l.length - v' < l.length - v_7)))
     ((k (AV.bool true) [] []))) := by
  intro n1
  intro q1 -- n1 = (↑l.length : Int)
  intro ⟨l1, u1⟩ -- (-9223372036854775808 : Int) ≤ n1 ∧ n1 ≤ (9223372036854775807 : Int)
  intro n4
  intro q4 -- n4 = (↑m.length : Int)
  intro ⟨l4, u4⟩ -- (-9223372036854775808 : Int) ≤ n4 ∧ n4 ≤ (9223372036854775807 : Int)
  refine br_intro (fun c1 => ?_) (fun c1 => ?_) -- n1 != n4
  · -- yes
    simp at c1 -- ¬n1 = n4
    -- k (AV.bool false) [] []
    refine hk false ⟨fun c => (by cases c), fun e => ?_⟩
    subst e
    exact absurd (by omega) c1
  · -- no
    simp at c1 -- n1 = n4
    refine ⟨?_, ?_⟩
    · -- left
      refine ⟨Int.toNat (0 : Int), ?_⟩
      refine ⟨by first | with_reducible rfl | rfl, ?_⟩ -- l = l
      refine ⟨by first | with_reducible rfl | rfl, ?_⟩ -- m = m
      refine ⟨by show (0 : Int) = (↑(Int.toNat (0 : Int)) : Int); omega, ?_⟩ -- (0 : Int) = (↑(Int.toNat (0 : Int)) : Int)
      refine ⟨by show Int.toNat (0 : Int) ≤ l.length; omega, ?_⟩ -- Int.toNat (0 : Int) ≤ l.length
      refine ⟨by show l.length = m.length; omega, ?_⟩ -- l.length = m.length
      -- eqU l m (Int.toNat (0 : Int))
      exact ⟨rfl⟩
    intro v_7
    intro h2 -- v_7 ≤ l.length ∧ l.length = m.length ∧ eqU l m v_7
    intro n9
    intro q9 -- n9 = (↑l.length : Int)
    intro ⟨l9, u9⟩ -- (-9223372036854775808 : Int) ≤ n9 ∧ n9 ≤ (9223372036854775807 : Int)
    refine brd (fun c3 => ?_) (fun c3 => ?_) -- decide ((↑v_7 : Int) < n9)
    · -- yes
      refine ⟨by first | omega | (dsimp only; omega), ?_⟩ -- (0 : Int) ≤ (↑v_7 : Int)
      refine ⟨by first | omega | (dsimp only; omega), ?_⟩ -- (↑v_7 : Int) < (↑l.length : Int)
      refine ⟨by first | omega | (dsimp only; omega), ?_⟩ -- (0 : Int) ≤ (↑v_7 : Int)
      refine ⟨by first | omega | (dsimp only; omega), ?_⟩ -- (↑v_7 : Int) < (↑m.length : Int)
      refine ⟨?_, ?_⟩
      · -- left
        refine ⟨by first | omega | (dsimp only; omega), ?_⟩ -- (0 : Int) ≤ (↑(l.getD (↑v_7 : Int).toNat (dflt (8 : Nat))).kind.toNat : Int)
        -- (↑(l.getD (↑v_7 : Int).toNat (dflt (8 : Nat))).kind.toNat : Int) ≤ (255 : Int)
        have := (l.getD (v_7 : Int).toNat (dflt 8)).kind.toNat_lt
        omega
      refine ⟨?_, ?_⟩
      · -- left
        refine ⟨by first | omega | (dsimp only; omega), ?_⟩ -- (0 : Int) ≤ (↑(l.getD (↑v_7 : Int).toNat (dflt (8 : Nat))).seq.toNat : Int)
        -- (↑(l.getD (↑v_7 : Int).toNat (dflt (8 : Nat))).seq.toNat : Int) ≤ (4294967295 : Int)
        have := (l.getD (v_7 : Int).toNat (dflt 8)).seq.toNat_lt
        omega
      refine ⟨?_, ?_⟩
      · -- left
        refine ⟨by first | omega | (dsimp only; omega), ?_⟩ -- (0 : Int) ≤ (↑(m.getD (↑v_7 : Int).toNat (dflt (8 : Nat))).kind.toNat : Int)
        -- (↑(m.getD (↑v_7 : Int).toNat (dflt (8 : Nat))).kind.toNat : Int) ≤ (255 : Int)
        have := (m.getD (v_7 : Int).toNat (dflt 8)).kind.toNat_lt
        omega
      refine ⟨?_, ?_⟩
      · -- left
        refine ⟨by first | omega | (dsimp only; omega), ?_⟩ -- (0 : Int) ≤ (↑(m.getD (↑v_7 : Int).toNat (dflt (8 : Nat))).seq.toNat : Int)
        -- (↑(m.getD (↑v_7 : Int).toNat (dflt (8 : Nat))).seq.toNat : Int) ≤ (4294967295 : Int)
        have := (m.getD (v_7 : Int).toNat (dflt 8)).seq.toNat_lt
        omega
      intro r_12
      intro h4 -- r_12 = true ↔ (↑(l.getD (↑v_7 : Int).toNat (dflt (8 : Nat))).kind.toNat : Int) = (↑(m.getD (↑v_7 : Int).toNat (dflt (8 : Nat))).kind.toNat : Int) ∧ (↑(l.getD (↑v_7 : Int).toNat (dflt (8 : Nat))).seq.toNat : Int) = (↑(m.getD (↑v_7 : Int).toNat (dflt (8 : Nat))).seq.toNat : Int) ∧ (l.getD (↑v_7 : Int).toNat (dflt (8 : Nat))).body = (m.getD (↑v_7 : Int).toNat (dflt (8 : Nat))).body
      refine br_intro (fun c5 => ?_) (fun c5 => ?_) -- !r_12
      · -- yes
        simp at c5 -- r_12 = false
        -- k (AV.bool false) [] []
        have lk := (l.getD v_7 (dflt 8)).kind.toNat_lt
        simp only [Int.toNat_natCast] at h4
        have S : r_12 = true ↔ l.getD v_7 (dflt 8) = m.getD v_7 (dflt 8) := by
          rw [h4]
          refine ⟨fun ⟨a1, a2, a3⟩ => ?_, fun e => by rw [e]; exact ⟨rfl, rfl, rfl⟩⟩
          exact msg_ext (UInt8.toNat_inj.1 (by omega)) (UInt32.toNat_inj.1 (by omega)) a3
        refine hk false ⟨fun c => (by cases c), fun e => ?_⟩
        subst e
        rw [S.2 rfl] at c5; cases c5
      · -- no
        simp at c5 -- r_12 = true
        intro n14
        intro q14 -- n14 = IntKind.i64.wrap ((↑v_7 : Int) + (1 : Int))
        rw [IntKind.wrap_i64] at q14
        intro ⟨l14, u14⟩ -- (-9223372036854775808 : Int) ≤ n14 ∧ n14 ≤ (9223372036854775807 : Int)
        refine ⟨n14.toNat, ?_⟩
        refine ⟨by first | with_reducible rfl | rfl, ?_⟩ -- l = l
        refine ⟨by first | with_reducible rfl | rfl, ?_⟩ -- m = m
        refine ⟨by show n14 = (↑n14.toNat : Int); omega, ?_⟩ -- n14 = (↑n14.toNat : Int)
        refine ⟨?_, ?_⟩
        · -- left
          refine ⟨by show n14.toNat ≤ l.length; omega, ?_⟩ -- n14.toNat ≤ l.length
          refine ⟨by show l.length = m.length; omega, ?_⟩ -- l.length = m.length
          -- eqU l m n14.toNat
          have lk := (l.getD v_7 (dflt 8)).kind.toNat_lt
          simp only [Int.toNat_natCast] at h4
          have S : r_12 = true ↔ l.getD v_7 (dflt 8) = m.getD v_7 (dflt 8) := by
            rw [h4]
            refine ⟨fun ⟨a1, a2, a3⟩ => ?_, fun e => by rw [e]; exact ⟨rfl, rfl, rfl⟩⟩
            exact msg_ext (UInt8.toNat_inj.1 (by omega)) (UInt32.toNat_inj.1 (by omega)) a3
          exact equ_step h2.2.2 (by omega) (by omega) (by omega) (S.1 c5)
        exact by show l.length - n14.toNat < l.length - v_7; omega -- l.length - n14.toNat < l.length - v_7
    · -- no
      -- k (AV.bool true) [] []
      have e := h2.2.2.e
      rw [List.take_of_length_le (by omega), List.take_of_length_le (by omega)] at e
      exact hk true ⟨fun _ => e, fun _ => rfl⟩

theorem rsameall_ok : Holds Try.prog 23 rsameS := by
  refine fn_sound (env := mkEnv V3) (tab_ok V3_ok) Try.func23 Try.call23 fun args k h => ?_
  match args, h with
  | [.sl 8 l, .sl 8 m], h => exact ⟨by kernel_rfl, rsameLoops l m, fun _ _ => none, .cast (by kernel_rfl) (rsameall_vc l m k h)⟩
set_option maxHeartbeats 2000000 in
theorem feedb_vc (q : Nat) (n : Nat) (bg : Bool) (lg : Bool) (b : List UInt8) (us : List UInt8) (hn : (n ≤ us.length ∧ n ≤ (1043 : Nat)) ∧ q = b.length) (k : AV → List (Option Blk) → List Blk → Prop) (hk : ((16384 : Nat) < b.length → k (AV.tup [AV.nilsl, AV.int IntKind.i64 (3 : Int)]) [some (Blk.cells [AV.row (0 : Nat) (3 : Nat) (0 : Nat) n, AV.bool bg, AV.bool lg, AV.bool true]), some (Blk.row (0 : Nat) b), none] [Blk.row (0 : Nat) us]) ∧ (b.length ≤ (16384 : Nat) → ∀ (b1 l1 : Bool) (us1 : List UInt8) (n1 m : Nat) (ys : List Msg), (b1, l1, List.take n1 us1) = rfold (bg, lg, List.take n us) b → ys = msgs (bg, lg, List.take n us) b → ys.length = m → n1 ≤ us1.length ∧ n1 ≤ (1043 : Nat) → k (AV.tup [AV.row (8 : Nat) (3 : Nat) (0 : Nat) m, AV.int IntKind.i64 (0 : Int)]) [some (Blk.cells [AV.row (0 : Nat) (4 : Nat) (0 : Nat) n1, AV.bool b1, AV.bool l1, AV.bool true]), some (Blk.row (0 : Nat) b), none] [Blk.row (8 : Nat) ys, Blk.row (0 : Nat) us1])) :
  ∀ (n1 : Int),
  (n1 = (↑q : Int)) →
  ((-9223372036854775808 : Int) ≤ n1 ∧ n1 ≤ (9223372036854775807 : Int)) →
  br (decide (n1 > (16384 : Int)))
   ((k (AV.tup [AV.nilsl, AV.int IntKind.i64 (3 : Int)]) [some (Blk.cells [AV.row (0 : Nat) (3 : Nat) (0 : Nat) n, AV.bool bg, AV.bool lg, AV.bool true]), some (Blk.row (0 : Nat) b), none] [Blk.row (0 : Nat) us]))
   (∀ (n4 : Int),
    (n4 = (↑q : Int)) →
    ((-9223372036854775808 : Int) ≤ n4 ∧ n4 ≤ (9223372036854775807 : Int)) →
    (
     ∃ (v : Nat × Bool × Bool × List UInt8 × Nat × List Msg),
     ((0 : Nat) = (0 : Nat)) ∧
     ((0 : Nat) = v.snd.snd.snd.snd.snd.length) ∧
     ((0 : Nat) = (0 : Nat)) ∧
     (q = q) ∧
     (n4 = (↑b.length : Int)) ∧
     ((0 : Int) = (↑v.fst : Int)) ∧
     ((0 : Nat) = (0 : Nat)) ∧
     (n = v.snd.snd.snd.snd.fst) ∧
     (bg = v.snd.fst) ∧
     (lg = v.snd.snd.fst) ∧
     (true = true) ∧
     (b = b) ∧
     (us = v.snd.snd.snd.fst) ∧
     ([] = v.snd.snd.snd.snd.snd) ∧
     (v.fst ≤ b.length) ∧
     (
      (q = b.length) ∧
      (b.length ≤ (16384 : Nat))) ∧
     (
      (v.snd.snd.snd.snd.fst ≤ v.snd.snd.snd.fst.length) ∧
      (v.snd.snd.snd.snd.fst ≤ (1043 : Nat))) ∧
     (FIn bg lg (List.take n us) b v.fst v.snd.fst v.snd.snd.fst (List.take v.snd.snd.snd.snd.fst v.snd.snd.snd.fst) v.snd.snd.snd.snd.snd) ∧
     (v.snd.snd.snd.snd.snd.length ≤ v.fst)) ∧
    ∀ (v_7 : Nat × Bool × Bool × List UInt8 × Nat × List Msg),
    (v_7.fst ≤ b.length ∧ (q = b.length ∧ b.length ≤ (16384 : Nat)) ∧ (v_7.snd.snd.snd.snd.fst ≤ v_7.snd.snd.snd.fst.length ∧ v_7.snd.snd.snd.snd.fst ≤ (1043 : Nat)) ∧ FIn bg lg (List.take n us) b v_7.fst v_7.snd.fst v_7.snd.snd.fst (List.take v_7.snd.snd.snd.snd.fst v_7.snd.snd.snd.fst) v_7.snd.snd.snd.snd.snd ∧ v_7.snd.snd.snd.snd.snd.length ≤ v_7.fst) →
    br (decide ((↑v_7.fst : Int) < (↑b.length : Int)))
     (((0 : Int) ≤ (↑v_7.fst : Int)) ∧
      ((↑v_7.fst : Int) < (↑q : Int)) ∧
      ((0 : Nat) + (↑v_7.fst : Int).toNat < b.length) ∧
      ∀ (n9 : Int),
      (n9 = (↑(b.getD ((0 : Nat) + (↑v_7.fst : Int).toNat) (0 : UInt8)).toNat : Int)) →
      ((0 : Int) ≤ n9 ∧ n9 ≤ (255 : Int)) →
      br (n9 == (126 : Int))
       (((List.take v_7.snd.snd.snd.snd.fst (List.drop (0 : Nat) v_7.snd.snd.snd.fst)).length ≤ (1000000 : Nat)) ∧
        (
         (pc (List.take v_7.snd.snd.snd.snd.fst (List.drop (0 : Nat) v_7.snd.snd.snd.fst)) = none) →
         ((0 : Int) ≤ (0 : Int)) ∧
         ((0 : Int) ≤ (↑v_7.snd.snd.snd.snd.fst : Int)) ∧
         ∀ (n13 : Int),
         (n13 = IntKind.i64.wrap ((↑v_7.fst : Int) + (1 : Int))) →
         ((-9223372036854775808 : Int) ≤ n13 ∧ n13 ≤ (9223372036854775807 : Int)) →
         ∃ (v' : Nat × Bool × Bool × List UInt8 × Nat × List Msg),
         ((0 : Nat) = (0 : Nat)) ∧
         (v_7.snd.snd.snd.snd.snd.length = v'.snd.snd.snd.snd.snd.length) ∧
         ((0 : Nat) = (0 : Nat)) ∧
         (q = q) ∧
         ((↑b.length : Int) = (↑b.length : Int)) ∧
         (n13 = (↑v'.fst : Int)) ∧
         ((0 : Nat) = (0 : Nat)) ∧
         (Int.toNat (0 : Int) = v'.snd.snd.snd.snd.fst) ∧
         (true = v'.snd.fst) ∧
         (false = v'.snd.snd.fst) ∧
         (true = true) ∧
         (b = b) ∧
         (v_7.snd.snd.snd.fst = v'.snd.snd.snd.fst) ∧
         (v_7.snd.snd.snd.snd.snd = v'.snd.snd.snd.snd.snd) ∧
         (
          (v'.fst ≤ b.length) ∧
          (
           (q = b.length) ∧
           (b.length ≤ (16384 : Nat))) ∧
          (
           (v'.snd.snd.snd.snd.fst ≤ v'.snd.snd.snd.fst.length) ∧
           (v'.snd.snd.snd.snd.fst ≤ (1043 : Nat))) ∧
          (FIn bg lg (List.take n us) b v'.fst v'.snd.fst v'.snd.snd.fst (List.take v'.snd.snd.snd.snd.fst v'.snd.snd.snd.fst) v'.snd.snd.snd.snd.snd) ∧
          (v'.snd.snd.snd.snd.snd.length ≤ v'.fst)) ∧
         (b.length - v'.fst < b.length - v_7.fst)) ∧
        ∀ (kd_16 : Int),
        ∀ (sq_17 : Int),
        ∀ (bo_18 : List UInt8),
        ∀ (n_19 : Nat),
        (pc (List.take v_7.snd.snd.snd.snd.fst (List.drop (0 : Nat) v_7.snd.snd.snd.fst)) = some (kd_16, sq_17, bo_18)) →
        (bo_18.length = n_19) →
        ((0 : Int) ≤ kd_16 ∧ kd_16 ≤ (255 : Int)) →
        ((0 : Int) ≤ sq_17 ∧ sq_17 ≤ (4294967295 : Int)) →
        br (bif bif true then v_7.snd.fst else false then !v_7.snd.snd.fst else false)
         (((v_7.snd.snd.snd.snd.snd.length + (1 : Nat)) * (32 : Nat) ≤ (140737488355328 : Nat)) ∧
          ∀ (z24 : List Msg),
          (z24 = List.take v_7.snd.snd.snd.snd.snd.length v_7.snd.snd.snd.snd.snd ++ List.take (1 : Nat) (List.drop (0 : Nat) [{ kind := UInt8.ofNat kd_16.toNat, seq := UInt32.ofNat sq_17.toNat, body := List.take n_19 (List.drop (0 : Nat) bo_18) : Msg }])) →
          ((0 : Int) ≤ (0 : Int)) ∧
          ((0 : Int) ≤ (↑v_7.snd.snd.snd.snd.fst : Int)) ∧
          ∀ (n26 : Int),
          (n26 = IntKind.i64.wrap ((↑v_7.fst : Int) + (1 : Int))) →
          ((-9223372036854775808 : Int) ≤ n26 ∧ n26 ≤ (9223372036854775807 : Int)) →
          ∃ (v' : Nat × Bool × Bool × List UInt8 × Nat × List Msg),
          ((0 : Nat) = (0 : Nat)) ∧
          (v_7.snd.snd.snd.snd.snd.length + (1 : Nat) = v'.snd.snd.snd.snd.snd.length) ∧
          ((0 : Nat) = (0 : Nat)) ∧
          (q = q) ∧
          ((↑b.length : Int) = (↑b.length : Int)) ∧
          (n26 = (↑v'.fst : Int)) ∧
          ((0 : Nat) = (0 : Nat)) ∧
          (Int.toNat (0 : Int) = v'.snd.snd.snd.snd.fst) ∧
          (true = v'.snd.fst) ∧
          (false = v'.snd.snd.fst) ∧
          (true = true) ∧
          (b = b) ∧
          (v_7.snd.snd.snd.fst = v'.snd.snd.snd.fst) ∧
          (z24 = v'.snd.snd.snd.snd.snd) ∧
          (
           (v'.fst ≤ b.length) ∧
           (
            (q = b.length) ∧
            (b.length ≤ (16384 : Nat))) ∧
           (
            (v'.snd.snd.snd.snd.fst ≤ v'.snd.snd.snd.fst.length) ∧
            (v'.snd.snd.snd.snd.fst ≤ (1043 : Nat))) ∧
           (FIn bg lg (List.take n us) b v'.fst v'.snd.fst v'.snd.snd.fst (List.take v'.snd.snd.snd.snd.fst v'.snd.snd.snd.fst) v'.snd.snd.snd.snd.snd) ∧
           (v'.snd.snd.snd.snd.snd.length ≤ v'.fst)) ∧
          (b.length - v'.fst < b.length - v_7.fst))
         (((0 : Int) ≤ (0 : Int)) ∧
          ((0 : Int) ≤ (↑v_7.snd.snd.snd.snd.fst : Int)) ∧
          ∀ (n29 : Int),
          (n29 = IntKind.i64.wrap ((↑v_7.fst : Int) + (1 : Int))) →
          ((-9223372036854775808 : Int) ≤ n29 ∧ n29 ≤ (9223372036854775807 : Int)) →
          ∃ (v' : Nat × Bool × Bool × List UInt8 × Nat × List Msg),
          ((0 : Nat) = (0 : Nat)) ∧
          (v_7.snd.snd.snd.snd.snd.length = v'.snd.snd.snd.snd.snd.length) ∧
          ((0 : Nat) = (0 : Nat)) ∧
          (q = q) ∧
          ((↑b.length : Int) = (↑b.length : Int)) ∧
          (n29 = (↑v'.fst : Int)) ∧
          ((0 : Nat) = (0 : Nat)) ∧
          (Int.toNat (0 : Int) = v'.snd.snd.snd.snd.fst) ∧
          (true = v'.snd.fst) ∧
          (false = v'.snd.snd.fst) ∧
          (true = true) ∧
          (b = b) ∧
          (v_7.snd.snd.snd.fst = v'.snd.snd.snd.fst) ∧
          (v_7.snd.snd.snd.snd.snd = v'.snd.snd.snd.snd.snd) ∧
          (
           (v'.fst ≤ b.length) ∧
           (
            (q = b.length) ∧
            (b.length ≤ (16384 : Nat))) ∧
           (
            (v'.snd.snd.snd.snd.fst ≤ v'.snd.snd.snd.fst.length) ∧
            (v'.snd.snd.snd.snd.fst ≤ (1043 : Nat))) ∧
           (FIn bg lg (List.take n us) b v'.fst v'.snd.fst v'.snd.snd.fst (List.take v'.snd.snd.snd.snd.fst v'.snd.snd.snd.fst) v'.snd.snd.snd.snd.snd) ∧
           (v'.snd.snd.snd.snd.snd.length ≤ v'.fst)) ∧
          (b.length - v'.fst < b.length - v_7.fst)))
       (∀ (n32 : Int),
        (n32 = (↑v_7.snd.snd.snd.snd.fst : Int)) →
        ((-9223372036854775808 : Int) ≤ n32 ∧ n32 ≤ (9223372036854775807 : Int)) →
        br (decide (n32 ≥ (1043 : Int)))
         (∀ (n35 : Int),
          (n35 = IntKind.i64.wrap ((↑v_7.fst : Int) + (1 : Int))) →
          ((-9223372036854775808 : Int) ≤ n35 ∧ n35 ≤ (9223372036854775807 : Int)) →
          ∃ (v' : Nat × Bool × Bool × List UInt8 × Nat × List Msg),
          ((0 : Nat) = (0 : Nat)) ∧
          (v_7.snd.snd.snd.snd.snd.length = v'.snd.snd.snd.snd.snd.length) ∧
          ((0 : Nat) = (0 : Nat)) ∧
          (q = q) ∧
          ((↑b.length : Int) = (↑b.length : Int)) ∧
          (n35 = (↑v'.fst : Int)) ∧
          ((0 : Nat) = (0 : Nat)) ∧
          (v_7.snd.snd.snd.snd.fst = v'.snd.snd.snd.snd.fst) ∧
          (v_7.snd.fst = v'.snd.fst) ∧
          (true = v'.snd.snd.fst) ∧
          (true = true) ∧
          (b = b) ∧
          (v_7.snd.snd.snd.fst = v'.snd.snd.snd.fst) ∧
          (v_7.snd.snd.snd.snd.snd = v'.snd.snd.snd.snd.snd) ∧
          (
           (v'.fst ≤ b.length) ∧
           (
            (q = b.length) ∧
            (b.length ≤ (16384 : Nat))) ∧
           (
            (v'.snd.snd.snd.snd.fst ≤ v'.snd.snd.snd.fst.length) ∧
            (v'.snd.snd.snd.snd.fst ≤ (1043 : Nat))) ∧
           (FIn bg lg (List.take n us) b v'.fst v'.snd.fst v'.snd.snd.fst (List.take v'.snd.snd.snd.snd.fst v'.snd.snd.snd.fst) v'.snd.snd.snd.snd.snd) ∧
           (v'.snd.snd.snd.snd.snd.length ≤ v'.fst)) ∧
          (b.length - v'.fst < b.length - v_7.fst))
         (br (v_7.snd.fst)
           (((v_7.snd.snd.snd.snd.fst + (1 : Nat)) * (1 : Nat) ≤ (140737488355328 : Nat)) ∧
            ∀ (z38 : List UInt8),
            (z38 = List.take v_7.snd.snd.snd.snd.fst v_7.snd.snd.snd.fst ++ List.take (1 : Nat) (List.drop (0 : Nat) [UInt8.ofNat n9.toNat])) →
            ∀ (n40 : Int),
            (n40 = IntKind.i64.wrap ((↑v_7.fst : Int) + (1 : Int))) →
            ((-9223372036854775808 : Int) ≤ n40 ∧ n40 ≤ (9223372036854775807 : Int)) →
            ∃ (v' : Nat × Bool × Bool × List UInt8 × Nat × List Msg),
            ((0 : Nat) = (0 : Nat)) ∧
            (v_7.snd.snd.snd.snd.snd.length = v'.snd.snd.snd.snd.snd.length) ∧
            ((0 : Nat) = (0 : Nat)) ∧
            (q = q) ∧
            ((↑b.length : Int) = (↑b.length : Int)) ∧
            (n40 = (↑v'.fst : Int)) ∧
            ((0 : Nat) = (0 : Nat)) ∧
            (v_7.snd.snd.snd.snd.fst + (1 : Nat) = v'.snd.snd.snd.snd.fst) ∧
            (v_7.snd.fst = v'.snd.fst) ∧
            (v_7.snd.snd.fst = v'.snd.snd.fst) ∧
            (true = true) ∧
            (b = b) ∧
            (z38 = v'.snd.snd.snd.fst) ∧
            (v_7.snd.snd.snd.snd.snd = v'.snd.snd.snd.snd.snd) ∧
            (
             (v'.fst ≤ b.length) ∧
             (
              (q = b.length) ∧
              (b.length ≤ (16384 : Nat))) ∧
             (
              (v'.snd.snd.snd.snd.fst ≤ v'.snd.snd.snd.fst.length) ∧
              (v'.snd.snd.snd.snd.fst ≤ (1043 : Nat))) ∧
             (FIn bg lg (List.take n us) b v'.fst v'.snd.fst v'.snd.snd.fst (List.take v'.snd.snd.snd.snd.fst v'.snd.snd.snd.fst) v'.snd.snd.snd.snd.snd) ∧
             (v'.snd.snd.snd.snd.snd.length ≤ v'.fst)) ∧
            (b.length - v'.fst < b.length - v_7.fst))
           (∀ (n43 : Int),
            (n43 = IntKind.i64.wrap ((↑v_7.fst : Int) + (1 : Int))) →
            ((-9223372036854775808 : Int) ≤ n43 ∧ n43 ≤ (9223372036854775807 : Int)) →
            ∃ (v' : Nat × Bool × Bool × List UInt8 × Nat × List Msg),
            ((0 : Nat) = (0 : Nat)) ∧
            (v_7.snd.snd.snd.snd.snd.length = v'.snd.snd.snd.snd.snd.length) ∧
            ((0 : Nat) = (0 : Nat)) ∧
            (q = q) ∧
            ((↑b.length : Int) = (↑b.length : Int)) ∧
            (n43 = (↑v'.fst : Int)) ∧
            ((0 : Nat) = (0 : Nat)) ∧
            (v_7.snd.snd.snd.snd.fst = v'.snd.snd.snd.snd.fst) ∧
            (v_7.snd.fst = v'.snd.fst) ∧
            (v_7.snd.snd.fst = v'.snd.snd.fst) ∧
            (true = true) ∧
            (b = b) ∧
            (v_7.snd.snd.snd.fst = v'.snd.snd.snd.fst) ∧
            (v_7.snd.snd.snd.snd.snd = v'.snd.snd.snd.snd.snd) ∧
            (
             (v'.fst ≤ b.length) ∧
             (
              (q = b.length) ∧
              (b.length ≤ (16384 : Nat))) ∧
             (
              (v'.snd.snd.snd.snd.fst ≤ v'.snd.snd.snd.fst.length) ∧
              (v'.snd.snd.snd.snd.fst ≤ (1043 : Nat))) ∧
             (FIn bg lg (List.take n us) b v'.fst v'.snd.fst v'.snd.snd.fst (List.take v'.snd.snd.snd.snd.fst v'.snd.snd.snd.fst) v'.snd.snd.snd.snd.snd) ∧
             (v'.snd.snd.snd.snd.snd.length ≤ v'.fst)) ∧
            (b.length - v'.fst < b.length - v_7.fst)))))
     ((k (AV.tup [AV.row (8 : Nat) (3 : Nat) (0 : Nat) v_7.snd.snd.snd.snd.snd.length, AV.int IntKind.i64 (0 : Int)]) [some (Blk.cells [AV.row (0 : Nat) (4 : Nat) (0 : Nat) v_7.snd.snd.snd.snd.fst, AV.bool v_7.snd.fst, AV.bool v_7.snd.snd.fst, AV.bool true]), some (Blk.row (0 : Nat) b), none] [Blk.row (8 : Nat) v_7.snd.snd.snd.snd.snd, Blk.row (0 : Nat) v_7.snd.snd.snd.fst]))) := by
  intro n1
  intro q1 -- n1 = (↑q : Int)
  intro ⟨l1, u1⟩ -- (-9223372036854775808 : Int) ≤ n1 ∧ n1 ≤ (9223372036854775807 : Int)
  refine brd (fun c1 => ?_) (fun c1 => ?_) -- decide (n1 > (16384 : Int))
  · -- yes
    -- k (AV.tup [AV.nilsl, AV.int IntKind.i64 (3 : Int)]) [some (Blk.cells [AV.row (0 : Nat) (3 : Nat) (0 : Nat) n, AV.bool bg, AV.bool lg, AV.bool true]), some (Blk.row (0 : Nat) b), none] [Blk.row (0 : Nat) us]
    exact hk.1 (by omega)
  · -- no
    intro n4
    intro q4 -- n4 = (↑q : Int)
    intro ⟨l4, u4⟩ -- (-9223372036854775808 : Int) ≤ n4 ∧ n4 ≤ (9223372036854775807 : Int)
    refine ⟨?_, ?_⟩
    · -- left
      refine ⟨(Int.toNat (0 : Int), bg, lg, us, n, []), ?_⟩
      refine ⟨by first | with_reducible rfl | rfl, ?_⟩ -- (0 : Nat) = (0 : Nat)
      refine ⟨by first | with_reducible rfl | rfl, ?_⟩ -- (0 : Nat) = (0 : Nat)
      refine ⟨by first | with_reducible rfl | rfl, ?_⟩ -- (0 : Nat) = (0 : Nat)
      refine ⟨by first | with_reducible rfl | rfl, ?_⟩ -- q = q
      refine ⟨by show n4 = (↑b.length : Int); omega, ?_⟩ -- n4 = (↑b.length : Int)
      refine ⟨by show (0 : Int) = (↑(Int.toNat (0 : Int)) : Int); omega, ?_⟩ -- (0 : Int) = (↑(Int.toNat (0 : Int)) : Int)
      refine ⟨by first | with_reducible rfl | rfl, ?_⟩ -- (0 : Nat) = (0 : Nat)
      refine ⟨by first | with_reducible rfl | rfl, ?_⟩ -- n = n
      refine ⟨by first | with_reducible rfl | rfl, ?_⟩ -- bg = bg
      refine ⟨by first | with_reducible rfl | rfl, ?_⟩ -- lg = lg
      refine ⟨by first | with_reducible rfl | rfl, ?_⟩ -- true = true
      refine ⟨by first | with_reducible rfl | rfl, ?_⟩ -- b = b
      refine ⟨by first | with_reducible rfl | rfl, ?_⟩ -- us = us
      refine ⟨by first | with_reducible rfl | rfl, ?_⟩ -- [] = []
      refine ⟨by show Int.toNat (0 : Int) ≤ b.length; omega, ?_⟩ -- Int.toNat (0 : Int) ≤ b.length
      refine ⟨by first | omega | (dsimp only; omega), ?_⟩ -- q = b.length ∧ b.length ≤ (16384 : Nat)
      refine ⟨by first | omega | (dsimp only; omega), ?_⟩ -- n ≤ us.length ∧ n ≤ (1043 : Nat)
      have h2 : FIn bg lg (List.take n us) b (Int.toNat (0 : Int)) bg lg (List.take n us) [] := by
        exact ⟨rfl, rfl⟩
      refine ⟨h2, ?_⟩
      exact by show (0 : Nat) ≤ Int.toNat (0 : Int); omega -- (0 : Nat) ≤ Int.toNat (0 : Int)
    intro v_7
    intro h3 -- v_7.fst ≤ b.length ∧ (q = b.length ∧ b.length ≤ (16384 : Nat)) ∧ (v_7.snd.snd.snd.snd.fst ≤ v_7.snd.snd.snd.fst.length ∧ v_7.snd.snd.snd.snd.fst ≤ (1043 : Nat)) ∧ FIn bg lg (List.take n us) b v_7.fst v_7.snd.fst v_7.snd.snd.fst (List.take v_7.snd.snd.snd.snd.fst v_7.snd.snd.snd.fst) v_7.snd.snd.snd.snd.snd ∧ v_7.snd.snd.snd.snd.snd.length ≤ v_7.fst
    refine brd (fun c4 => ?_) (fun c4 => ?_) -- decide ((↑v_7.fst : Int) < (↑b.length : Int))
    · -- yes
      refine ⟨by first | omega | (dsimp only; omega), ?_⟩ -- (0 : Int) ≤ (↑v_7.fst : Int)
      refine ⟨by first | omega | (dsimp only; omega), ?_⟩ -- (↑v_7.fst : Int) < (↑q : Int)
      refine ⟨by first | omega | (dsimp only; omega), ?_⟩ -- (0 : Nat) + (↑v_7.fst : Int).toNat < b.length
      intro n9
      intro q9 -- n9 = (↑(b.getD ((0 : Nat) + (↑v_7.fst : Int).toNat) (0 : UInt8)).toNat : Int)
      intro ⟨l9, u9⟩ -- (0 : Int) ≤ n9 ∧ n9 ≤ (255 : Int)
      refine br_intro (fun c5 => ?_) (fun c5 => ?_) -- n9 == (126 : Int)
      · -- yes
        simp at c5 -- n9 = (126 : Int)
        have h6 : (List.take v_7.snd.snd.snd.snd.fst (List.drop (0 : Nat) v_7.snd.snd.snd.fst)).length ≤ (1000000 : Nat) := by
          rw [List.drop_zero, List.length_take]; omega
        refine ⟨h6, ?_⟩
        refine ⟨?_, ?_⟩
        · -- left
          intro h7 -- pc (List.take v_7.snd.snd.snd.snd.fst (List.drop (0 : Nat) v_7.snd.snd.snd.fst)) = none
          refine ⟨by first | omega | (dsimp only; omega), ?_⟩ -- (0 : Int) ≤ (0 : Int)
          refine ⟨by first | omega | (dsimp only; omega), ?_⟩ -- (0 : Int) ≤ (↑v_7.snd.snd.snd.snd.fst : Int)
          intro n13
          intro q13 -- n13 = IntKind.i64.wrap ((↑v_7.fst : Int) + (1 : Int))
          rw [IntKind.wrap_i64] at q13
          intro ⟨l13, u13⟩ -- (-9223372036854775808 : Int) ≤ n13 ∧ n13 ≤ (9223372036854775807 : Int)
          refine ⟨(n13.toNat, true, false, v_7.snd.snd.snd.fst, Int.toNat (0 : Int), v_7.snd.snd.snd.snd.snd), ?_⟩
          refine ⟨by first | with_reducible rfl | rfl, ?_⟩ -- (0 : Nat) = (0 : Nat)
          refine ⟨by first | with_reducible rfl | rfl, ?_⟩ -- v_7.snd.snd.snd.snd.snd.length = v_7.snd.snd.snd.snd.snd.length
          refine ⟨by first | with_reducible rfl | rfl, ?_⟩ -- (0 : Nat) = (0 : Nat)
          refine ⟨by first | with_reducible rfl | rfl, ?_⟩ -- q = q
          refine ⟨by first | with_reducible rfl | rfl, ?_⟩ -- (↑b.length : Int) = (↑b.length : Int)
          refine ⟨by show n13 = (↑n13.toNat : Int); omega, ?_⟩ -- n13 = (↑n13.toNat : Int)
          refine ⟨by first | with_reducible rfl | rfl, ?_⟩ -- (0 : Nat) = (0 : Nat)
          refine ⟨by first | with_reducible rfl | rfl, ?_⟩ -- Int.toNat (0 : Int) = Int.toNat (0 : Int)
          refine ⟨by first | with_reducible rfl | rfl, ?_⟩ -- true = true
          refine ⟨by first | with_reducible rfl | rfl, ?_⟩ -- false = false
          refine ⟨by first | with_reducible rfl | rfl, ?_⟩ -- true = true
          refine ⟨by first | with_reducible rfl | rfl, ?_⟩ -- b = b
          refine ⟨by first | with_reducible rfl | rfl, ?_⟩ -- v_7.snd.snd.snd.fst = v_7.snd.snd.snd.fst
          refine ⟨by first | with_reducible rfl | rfl, ?_⟩ -- v_7.snd.snd.snd.snd.snd = v_7.snd.snd.snd.snd.snd
          refine ⟨?_, ?_⟩
          · -- left
            refine ⟨by show n13.toNat ≤ b.length; omega, ?_⟩ -- n13.toNat ≤ b.length
            refine ⟨by first | omega | (dsimp only; omega), ?_⟩ -- q = b.length ∧ b.length ≤ (16384 : Nat)
            refine ⟨by first | omega | (dsimp only; omega), ?_⟩ -- Int.toNat (0 : Int) ≤ v_7.snd.snd.snd.fst.length ∧ Int.toNat (0 : Int) ≤ (1043 : Nat)
            have h8 : FIn bg lg (List.take n us) b n13.toNat true false (List.take (Int.toNat (0 : Int)) v_7.snd.snd.snd.fst) v_7.snd.snd.snd.snd.snd := by
              have bx : n9 = ((b.getD v_7.fst 0).toNat : Int) := by rw [q9, Int.toNat_natCast, Nat.zero_add]
              have x126 : b.getD v_7.fst 0 = 126 := byteE bx c5
              rw [List.drop_zero] at h7
              exact fin_step h3.2.2.2.1 (by omega) (by omega) (by rw [x126]; rfl) (by rw [emit_pcn _ h7, List.append_nil])
            refine ⟨h8, ?_⟩
            exact by show v_7.snd.snd.snd.snd.snd.length ≤ n13.toNat; omega -- v_7.snd.snd.snd.snd.snd.length ≤ n13.toNat
          exact by show b.length - n13.toNat < b.length - v_7.fst; omega -- b.length - n13.toNat < b.length - v_7.fst
        intro kd_16
        intro sq_17
        intro bo_18
        intro n_19
        intro h9 -- pc (List.take v_7.snd.snd.snd.snd.fst (List.drop (0 : Nat) v_7.snd.snd.snd.fst)) = some (kd_16, sq_17, bo_18)
        intro h10 -- bo_18.length = n_19
        intro ⟨a11, b11⟩ -- (0 : Int) ≤ kd_16 ∧ kd_16 ≤ (255 : Int)
        intro ⟨a12, b12⟩ -- (0 : Int) ≤ sq_17 ∧ sq_17 ≤ (4294967295 : Int)
        refine br_intro (fun c13 => ?_) (fun c13 => ?_) -- bif bif true then v_7.snd.fst else false then !v_7.snd.snd.fst else false
        · -- yes
          simp at c13 -- v_7.snd.fst = true ∧ v_7.snd.snd.fst = false
          refine ⟨by first | omega | (dsimp only; omega), ?_⟩ -- (v_7.snd.snd.snd.snd.snd.length + (1 : Nat)) * (32 : Nat) ≤ (140737488355328 : Nat)
          intro z24
          intro qz24 -- z24 = List.take v_7.snd.snd.snd.snd.snd.length v_7.snd.snd.snd.snd.snd ++ List.take (1 : Nat) (List.drop (0 : Nat) [{ kind := UInt8.ofNat kd_16.toNat, seq := UInt32.ofNat sq_17.toNat, body := List.take n_19 (List.drop (0 : Nat) bo_18) : Msg }])
          refine ⟨by first | omega | (dsimp only; omega), ?_⟩ -- (0 : Int) ≤ (0 : Int)
          refine ⟨by first | omega | (dsimp only; omega), ?_⟩ -- (0 : Int) ≤ (↑v_7.snd.snd.snd.snd.fst : Int)
          intro n26
          intro q26 -- n26 = IntKind.i64.wrap ((↑v_7.fst : Int) + (1 : Int))
          rw [IntKind.wrap_i64] at q26
          intro ⟨l26, u26⟩ -- (-9223372036854775808 : Int) ≤ n26 ∧ n26 ≤ (9223372036854775807 : Int)
          refine ⟨(n26.toNat, true, false, v_7.snd.snd.snd.fst, Int.toNat (0 : Int), z24), ?_⟩
          refine ⟨by first | with_reducible rfl | rfl, ?_⟩ -- (0 : Nat) = (0 : Nat)
          have h14 : v_7.snd.snd.snd.snd.snd.length + (1 : Nat) = z24.length := by
            rw [qz24]; simp
          refine ⟨h14, ?_⟩
          refine ⟨by first | with_reducible rfl | rfl, ?_⟩ -- (0 : Nat) = (0 : Nat)
          refine ⟨by first | with_reducible rfl | rfl, ?_⟩ -- q = q
          refine ⟨by first | with_reducible rfl | rfl, ?_⟩ -- (↑b.length : Int) = (↑b.length : Int)
          refine ⟨by show n26 = (↑n26.toNat : Int); omega, ?_⟩ -- n26 = (↑n26.toNat : Int)
          refine ⟨by first | with_reducible rfl | rfl, ?_⟩ -- (0 : Nat) = (0 : Nat)
          refine ⟨by first | with_reducible rfl | rfl, ?_⟩ -- Int.toNat (0 : Int) = Int.toNat (0 : Int)
          refine ⟨by first | with_reducible rfl | rfl, ?_⟩ -- true = true
          refine ⟨by first | with_reducible rfl | rfl, ?_⟩ -- false = false
          refine ⟨by first | with_reducible rfl | rfl, ?_⟩ -- true = true
          refine ⟨by first | with_reducible rfl | rfl, ?_⟩ -- b = b
          refine ⟨by first | with_reducible rfl | rfl, ?_⟩ -- v_7.snd.snd.snd.fst = v_7.snd.snd.snd.fst
          refine ⟨by first | with_reducible rfl | rfl, ?_⟩ -- z24 = z24
          refine ⟨?_, ?_⟩
          · -- left
            refine ⟨by show n26.toNat ≤ b.length; omega, ?_⟩ -- n26.toNat ≤ b.length
            refine ⟨by first | omega | (dsimp only; omega), ?_⟩ -- q = b.length ∧ b.length ≤ (16384 : Nat)
            refine ⟨by first | omega | (dsimp only; omega), ?_⟩ -- Int.toNat (0 : Int) ≤ v_7.snd.snd.snd.fst.length ∧ Int.toNat (0 : Int) ≤ (1043 : Nat)
            have h15 : FIn bg lg (List.take n us) b n26.toNat true false (List.take (Int.toNat (0 : Int)) v_7.snd.snd.snd.fst) z24 := by
              have bx : n9 = ((b.getD v_7.fst 0).toNat : Int) := by rw [q9, Int.toNat_natCast, Nat.zero_add]
              have x126 : b.getD v_7.fst 0 = 126 := byteE bx c5
              rw [List.drop_zero] at h9
              refine fin_step h3.2.2.2.1 (by omega) (by omega) (by rw [x126]; rfl) ?_
              rw [x126, emit_pc h9 c13.1 c13.2, qz24, ← h10, List.drop_zero, List.drop_zero, List.take_length, List.take_length]
              rfl
            refine ⟨h15, ?_⟩
            exact by show z24.length ≤ n26.toNat; omega -- z24.length ≤ n26.toNat
          exact by show b.length - n26.toNat < b.length - v_7.fst; omega -- b.length - n26.toNat < b.length - v_7.fst
        · -- no
          simp at c13 -- v_7.snd.fst = true → v_7.snd.snd.fst = true
          refine ⟨by first | omega | (dsimp only; omega), ?_⟩ -- (0 : Int) ≤ (0 : Int)
          refine ⟨by first | omega | (dsimp only; omega), ?_⟩ -- (0 : Int) ≤ (↑v_7.snd.snd.snd.snd.fst : Int)
          intro n29
          intro q29 -- n29 = IntKind.i64.wrap ((↑v_7.fst : Int) + (1 : Int))
          rw [IntKind.wrap_i64] at q29
          intro ⟨l29, u29⟩ -- (-9223372036854775808 : Int) ≤ n29 ∧ n29 ≤ (9223372036854775807 : Int)
          refine ⟨(n29.toNat, true, false, v_7.snd.snd.snd.fst, Int.toNat (0 : Int), v_7.snd.snd.snd.snd.snd), ?_⟩
          refine ⟨by first | with_reducible rfl | rfl, ?_⟩ -- (0 : Nat) = (0 : Nat)
          refine ⟨by first | with_reducible rfl | rfl, ?_⟩ -- v_7.snd.snd.snd.snd.snd.length = v_7.snd.snd.snd.snd.snd.length
          refine ⟨by first | with_reducible rfl | rfl, ?_⟩ -- (0 : Nat) = (0 : Nat)
          refine ⟨by first | with_reducible rfl | rfl, ?_⟩ -- q = q
          refine ⟨by first | with_reducible rfl | rfl, ?_⟩ -- (↑b.length : Int) = (↑b.length : Int)
          refine ⟨by show n29 = (↑n29.toNat : Int); omega, ?_⟩ -- n29 = (↑n29.toNat : Int)
          refine ⟨by first | with_reducible rfl | rfl, ?_⟩ -- (0 : Nat) = (0 : Nat)
          refine ⟨by first | with_reducible rfl | rfl, ?_⟩ -- Int.toNat (0 : Int) = Int.toNat (0 : Int)
          refine ⟨by first | with_reducible rfl | rfl, ?_⟩ -- true = true
          refine ⟨by first | with_reducible rfl | rfl, ?_⟩ -- false = false
          refine ⟨by first | with_reducible rfl | rfl, ?_⟩ -- true = true
          refine ⟨by first | with_reducible rfl | rfl, ?_⟩ -- b = b
          refine ⟨by first | with_reducible rfl | rfl, ?_⟩ -- v_7.snd.snd.snd.fst = v_7.snd.snd.snd.fst
          refine ⟨by first | with_reducible rfl | rfl, ?_⟩ -- v_7.snd.snd.snd.snd.snd = v_7.snd.snd.snd.snd.snd
          refine ⟨?_, ?_⟩
          · -- left
            refine ⟨by show n29.toNat ≤ b.length; omega, ?_⟩ -- n29.toNat ≤ b.length
            refine ⟨by first | omega | (dsimp only; omega), ?_⟩ -- q = b.length ∧ b.length ≤ (16384 : Nat)
            refine ⟨by first | omega | (dsimp only; omega), ?_⟩ -- Int.toNat (0 : Int) ≤ v_7.snd.snd.snd.fst.length ∧ Int.toNat (0 : Int) ≤ (1043 : Nat)
            have h16 : FIn bg lg (List.take n us) b n29.toNat true false (List.take (Int.toNat (0 : Int)) v_7.snd.snd.snd.fst) v_7.snd.snd.snd.snd.snd := by
              have bx : n9 = ((b.getD v_7.fst 0).toNat : Int) := by rw [q9, Int.toNat_natCast, Nat.zero_add]
              have x126 : b.getD v_7.fst 0 = 126 := byteE bx c5
              exact fin_step h3.2.2.2.1 (by omega) (by omega) (by rw [x126]; rfl) (by rw [emit_no _ c13, List.append_nil])
            refine ⟨h16, ?_⟩
            exact by show v_7.snd.snd.snd.snd.snd.length ≤ n29.toNat; omega -- v_7.snd.snd.snd.snd.snd.length ≤ n29.toNat
          exact by show b.length - n29.toNat < b.length - v_7.fst; omega -- b.length - n29.toNat < b.length - v_7.fst
      · -- no
        simp at c5 -- ¬n9 = (126 : Int)
        intro n32
        intro q32 -- n32 = (↑v_7.snd.snd.snd.snd.fst : Int)
        intro ⟨l32, u32⟩ -- (-9223372036854775808 : Int) ≤ n32 ∧ n32 ≤ (9223372036854775807 : Int)
        refine brd (fun c17 => ?_) (fun c17 => ?_) -- decide (n32 ≥ (1043 : Int))
        · -- yes
          intro n35
          intro q35 -- n35 = IntKind.i64.wrap ((↑v_7.fst : Int) + (1 : Int))
          rw [IntKind.wrap_i64] at q35
          intro ⟨l35, u35⟩ -- (-9223372036854775808 : Int) ≤ n35 ∧ n35 ≤ (9223372036854775807 : Int)
          refine ⟨(n35.toNat, v_7.snd.fst, true, v_7.snd.snd.snd.fst, v_7.snd.snd.snd.snd.fst, v_7.snd.snd.snd.snd.snd), ?_⟩
          refine ⟨by first | with_reducible rfl | rfl, ?_⟩ -- (0 : Nat) = (0 : Nat)
          refine ⟨by first | with_reducible rfl | rfl, ?_⟩ -- v_7.snd.snd.snd.snd.snd.length = v_7.snd.snd.snd.snd.snd.length
          refine ⟨by first | with_reducible rfl | rfl, ?_⟩ -- (0 : Nat) = (0 : Nat)
          refine ⟨by first | with_reducible rfl | rfl, ?_⟩ -- q = q
          refine ⟨by first | with_reducible rfl | rfl, ?_⟩ -- (↑b.length : Int) = (↑b.length : Int)
          refine ⟨by show n35 = (↑n35.toNat : Int); omega, ?_⟩ -- n35 = (↑n35.toNat : Int)
          refine ⟨by first | with_reducible rfl | rfl, ?_⟩ -- (0 : Nat) = (0 : Nat)
          refine ⟨by first | with_reducible rfl | rfl, ?_⟩ -- v_7.snd.snd.snd.snd.fst = v_7.snd.snd.snd.snd.fst
          refine ⟨by first | with_reducible rfl | rfl, ?_⟩ -- v_7.snd.fst = v_7.snd.fst
          refine ⟨by first | with_reducible rfl | rfl, ?_⟩ -- true = true
          refine ⟨by first | with_reducible rfl | rfl, ?_⟩ -- true = true
          refine ⟨by first | with_reducible rfl | rfl, ?_⟩ -- b = b
          refine ⟨by first | with_reducible rfl | rfl, ?_⟩ -- v_7.snd.snd.snd.fst = v_7.snd.snd.snd.fst
          refine ⟨by first | with_reducible rfl | rfl, ?_⟩ -- v_7.snd.snd.snd.snd.snd = v_7.snd.snd.snd.snd.snd
          refine ⟨?_, ?_⟩
          · -- left
            refine ⟨by show n35.toNat ≤ b.length; omega, ?_⟩ -- n35.toNat ≤ b.length
            refine ⟨by first | omega | (dsimp only; omega), ?_⟩ -- q = b.length ∧ b.length ≤ (16384 : Nat)
            refine ⟨by first | omega | (dsimp only; omega), ?_⟩ -- v_7.snd.snd.snd.snd.fst ≤ v_7.snd.snd.snd.fst.length ∧ v_7.snd.snd.snd.snd.fst ≤ (1043 : Nat)
            have h18 : FIn bg lg (List.take n us) b n35.toNat v_7.snd.fst true (List.take v_7.snd.snd.snd.snd.fst v_7.snd.snd.snd.fst) v_7.snd.snd.snd.snd.snd := by
              have bx : n9 = ((b.getD v_7.fst 0).toNat : Int) := by rw [q9, Int.toNat_natCast, Nat.zero_add]
              have x0 : b.getD v_7.fst 0 ≠ 126 := fun e => c5 (by rw [bx, e]; rfl)
              have lu : (List.take v_7.snd.snd.snd.snd.fst v_7.snd.snd.snd.fst).length = v_7.snd.snd.snd.snd.fst := by rw [List.length_take]; omega
              exact fin_step h3.2.2.2.1 (by omega) (by omega) (by unfold rst; rw [if_neg x0, if_pos (by rw [lu]; omega)]) (by rw [emit_oth x0, List.append_nil])
            refine ⟨h18, ?_⟩
            exact by show v_7.snd.snd.snd.snd.snd.length ≤ n35.toNat; omega -- v_7.snd.snd.snd.snd.snd.length ≤ n35.toNat
          exact by show b.length - n35.toNat < b.length - v_7.fst; omega -- b.length - n35.toNat < b.length - v_7.fst
        · -- no
          refine br_intro (fun c19 => ?_) (fun c19 => ?_) -- v_7.snd.fst
          · -- yes
            refine ⟨by first | omega | (dsimp only; omega), ?_⟩ -- (v_7.snd.snd.snd.snd.fst + (1 : Nat)) * (1 : Nat) ≤ (140737488355328 : Nat)
            intro z38
            intro qz38 -- z38 = List.take v_7.snd.snd.snd.snd.fst v_7.snd.snd.snd.fst ++ List.take (1 : Nat) (List.drop (0 : Nat) [UInt8.ofNat n9.toNat])
            intro n40
            intro q40 -- n40 = IntKind.i64.wrap ((↑v_7.fst : Int) + (1 : Int))
            rw [IntKind.wrap_i64] at q40
            intro ⟨l40, u40⟩ -- (-9223372036854775808 : Int) ≤ n40 ∧ n40 ≤ (9223372036854775807 : Int)
            refine ⟨(n40.toNat, v_7.snd.fst, v_7.snd.snd.fst, z38, v_7.snd.snd.snd.snd.fst + (1 : Nat), v_7.snd.snd.snd.snd.snd), ?_⟩
            refine ⟨by first | with_reducible rfl | rfl, ?_⟩ -- (0 : Nat) = (0 : Nat)
            refine ⟨by first | with_reducible rfl | rfl, ?_⟩ -- v_7.snd.snd.snd.snd.snd.length = v_7.snd.snd.snd.snd.snd.length
            refine ⟨by first | with_reducible rfl | rfl, ?_⟩ -- (0 : Nat) = (0 : Nat)
            refine ⟨by first | with_reducible rfl | rfl, ?_⟩ -- q = q
            refine ⟨by first | with_reducible rfl | rfl, ?_⟩ -- (↑b.length : Int) = (↑b.length : Int)
            refine ⟨by show n40 = (↑n40.toNat : Int); omega, ?_⟩ -- n40 = (↑n40.toNat : Int)
            refine ⟨by first | with_reducible rfl | rfl, ?_⟩ -- (0 : Nat) = (0 : Nat)
            refine ⟨by first | with_reducible rfl | rfl, ?_⟩ -- v_7.snd.snd.snd.snd.fst + (1 : Nat) = v_7.snd.snd.snd.snd.fst + (1 : Nat)
            refine ⟨by first | with_reducible rfl | rfl, ?_⟩ -- v_7.snd.fst = v_7.snd.fst
            refine ⟨by first | with_reducible rfl | rfl, ?_⟩ -- v_7.snd.snd.fst = v_7.snd.snd.fst
            refine ⟨by first | with_reducible rfl | rfl, ?_⟩ -- true = true
            refine ⟨by first | with_reducible rfl | rfl, ?_⟩ -- b = b
            refine ⟨by first | with_reducible rfl | rfl, ?_⟩ -- z38 = z38
            refine ⟨by first | with_reducible rfl | rfl, ?_⟩ -- v_7.snd.snd.snd.snd.snd = v_7.snd.snd.snd.snd.snd
            refine ⟨?_, ?_⟩
            · -- left
              refine ⟨by show n40.toNat ≤ b.length; omega, ?_⟩ -- n40.toNat ≤ b.length
              refine ⟨by first | omega | (dsimp only; omega), ?_⟩ -- q = b.length ∧ b.length ≤ (16384 : Nat)
              refine ⟨?_, ?_⟩
              · -- left
                have h20 : v_7.snd.snd.snd.snd.fst + (1 : Nat) ≤ z38.length := by
                  rw [qz38]; simp; omega
                refine ⟨h20, ?_⟩
                exact by show v_7.snd.snd.snd.snd.fst + (1 : Nat) ≤ (1043 : Nat); omega -- v_7.snd.snd.snd.snd.fst + (1 : Nat) ≤ (1043 : Nat)
              have h21 : FIn bg lg (List.take n us) b n40.toNat v_7.snd.fst v_7.snd.snd.fst (List.take (v_7.snd.snd.snd.snd.fst + (1 : Nat)) z38) v_7.snd.snd.snd.snd.snd := by
                have bx : n9 = ((b.getD v_7.fst 0).toNat : Int) := by rw [q9, Int.toNat_natCast, Nat.zero_add]
                have x0 : b.getD v_7.fst 0 ≠ 126 := fun e => c5 (by rw [bx, e]; rfl)
                have lu : (List.take v_7.snd.snd.snd.snd.fst v_7.snd.snd.snd.fst).length = v_7.snd.snd.snd.snd.fst := by rw [List.length_take]; omega
                refine fin_step h3.2.2.2.1 (by omega) (by omega) ?_ (by rw [emit_oth x0, List.append_nil])
                have Z : List.take (v_7.snd.snd.snd.snd.fst + 1) z38 = List.take v_7.snd.snd.snd.snd.fst v_7.snd.snd.snd.fst ++ [b.getD v_7.fst 0] := by
                  rw [qz38, bx, Int.toNat_natCast, UInt8.ofNat_toNat, List.take_of_length_le (by simp; omega)]; rfl
                rw [Z]
                unfold rst
                rw [if_neg x0, if_neg (by rw [lu]; omega), if_pos c19]
              refine ⟨h21, ?_⟩
              exact by show v_7.snd.snd.snd.snd.snd.length ≤ n40.toNat; omega -- v_7.snd.snd.snd.snd.snd.length ≤ n40.toNat
            exact by show b.length - n40.toNat < b.length - v_7.fst; omega -- b.length - n40.toNat < b.length - v_7.fst
          · -- no
            intro n43
            intro q43 -- n43 = IntKind.i64.wrap ((↑v_7.fst : Int) + (1 : Int))
            rw [IntKind.wrap_i64] at q43
            intro ⟨l43, u43⟩ -- (-9223372036854775808 : Int) ≤ n43 ∧ n43 ≤ (9223372036854775807 : Int)
            refine ⟨(n43.toNat, v_7.snd.fst, v_7.snd.snd.fst, v_7.snd.snd.snd.fst, v_7.snd.snd.snd.snd.fst, v_7.snd.snd.snd.snd.snd), ?_⟩
            refine ⟨by first | with_reducible rfl | rfl, ?_⟩ -- (0 : Nat) = (0 : Nat)
            refine ⟨by first | with_reducible rfl | rfl, ?_⟩ -- v_7.snd.snd.snd.snd.snd.length = v_7.snd.snd.snd.snd.snd.length
            refine ⟨by first | with_reducible rfl | rfl, ?_⟩ -- (0 : Nat) = (0 : Nat)
            refine ⟨by first | with_reducible rfl | rfl, ?_⟩ -- q = q
            refine ⟨by first | with_reducible rfl | rfl, ?_⟩ -- (↑b.length : Int) = (↑b.length : Int)
            refine ⟨by show n43 = (↑n43.toNat : Int); omega, ?_⟩ -- n43 = (↑n43.toNat : Int)
            refine ⟨by first | with_reducible rfl | rfl, ?_⟩ -- (0 : Nat) = (0 : Nat)
            refine ⟨by first | with_reducible rfl | rfl, ?_⟩ -- v_7.snd.snd.snd.snd.fst = v_7.snd.snd.snd.snd.fst
            refine ⟨by first | with_reducible rfl | rfl, ?_⟩ -- v_7.snd.fst = v_7.snd.fst
            refine ⟨by first | with_reducible rfl | rfl, ?_⟩ -- v_7.snd.snd.fst = v_7.snd.snd.fst
            refine ⟨by first | with_reducible rfl | rfl, ?_⟩ -- true = true
            refine ⟨by first | with_reducible rfl | rfl, ?_⟩ -- b = b
            refine ⟨by first | with_reducible rfl | rfl, ?_⟩ -- v_7.snd.snd.snd.fst = v_7.snd.snd.snd.fst
            refine ⟨by first | with_reducible rfl | rfl, ?_⟩ -- v_7.snd.snd.snd.snd.snd = v_7.snd.snd.snd.snd.snd
            refine ⟨?_, ?_⟩
            · -- left
              refine ⟨by show n43.toNat ≤ b.length; omega, ?_⟩ -- n43.toNat ≤ b.length
              refine ⟨by first | omega | (dsimp only; omega), ?_⟩ -- q = b.length ∧ b.length ≤ (16384 : Nat)
              refine ⟨by first | omega | (dsimp only; omega), ?_⟩ -- v_7.snd.snd.snd.snd.fst ≤ v_7.snd.snd.snd.fst.length ∧ v_7.snd.snd.snd.snd.fst ≤ (1043 : Nat)
              have h22 : FIn bg lg (List.take n us) b n43.toNat v_7.snd.fst v_7.snd.snd.fst (List.take v_7.snd.snd.snd.snd.fst v_7.snd.snd.snd.fst) v_7.snd.snd.snd.snd.snd := by
                have bx : n9 = ((b.getD v_7.fst 0).toNat : Int) := by rw [q9, Int.toNat_natCast, Nat.zero_add]
                have x0 : b.getD v_7.fst 0 ≠ 126 := fun e => c5 (by rw [bx, e]; rfl)
                have lu : (List.take v_7.snd.snd.snd.snd.fst v_7.snd.snd.snd.fst).length = v_7.snd.snd.snd.snd.fst := by rw [List.length_take]; omega
                exact fin_step h3.2.2.2.1 (by omega) (by omega) (by unfold rst; rw [if_neg x0, if_neg (by rw [lu]; omega), if_neg (by rw [c19]; decide)]) (by rw [emit_oth x0, List.append_nil])
              refine ⟨h22, ?_⟩
              exact by show v_7.snd.snd.snd.snd.snd.length ≤ n43.toNat; omega -- v_7.snd.snd.snd.snd.snd.length ≤ n43.toNat
            exact by show b.length - n43.toNat < b.length - v_7.fst; omega -- b.length - n43.toNat < b.length - v_7.fst
    · -- no
      -- k (AV.tup [AV.row (8 : Nat) (3 : Nat) (0 : Nat) v_7.snd.snd.snd.snd.snd.length, AV.int IntKind.i64 (0 : Int)]) [some (Blk.cells [AV.row (0 : Nat) (4 : Nat) (0 : Nat) v_7.snd.snd.snd.snd.fst, AV.bool v_7.snd.fst, AV.bool v_7.snd.snd.fst, AV.bool true]), some (Blk.row (0 : Nat) b), none] [Blk.row (8 : Nat) v_7.snd.snd.snd.snd.snd, Blk.row (0 : Nat) v_7.snd.snd.snd.fst]
      have e : v_7.fst = b.length := by omega
      have f := h3.2.2.2.1
      rw [e] at f
      have f1 := f.c1
      have f2 := f.c2
      rw [List.take_length] at f1 f2
      exact hk.2 (by omega) _ _ _ _ _ _ f1 f2 rfl ⟨by omega, by omega⟩

theorem feedb_ok : Holds Try.prog 25 feedB := by
  refine fn_soundB (env := mkEnv T4) (tab_ok T4_ok) Try.func25 Try.call25 (fun args B k h => ?_) (by decide)
  unfold feedB at h
  dsimp only at h
  split at h
  · rename_i q n bg lg b us
    exact ⟨by kernel_rfl, feedBLoops q n bg lg b us, fun _ _ => none, .cast (by kernel_rfl) (feedb_vc q n bg lg b us h.1 k h.2)⟩
  · exact h.elim
theorem V4_ok : TabOk Try.prog V4 := ⟨fnew_ok, feedb_ok, scanD_ok, scan_up rscan_ok, rallb_ok, rsameall_ok, trivial⟩
end Go.Proofs.Ytilbglkpbjamfaa

