/- FrameFound and FramePieces: behind any bytes, and ahead of any, each frame is found, and nothing else but what those bytes have; however bytes come in pieces, a reader finds what is found in all of them. Any bytes, messages and pieces. No conditions beyond the rows' own. -/
import Derived.Test.YtilbglkpbjamfaaFrO
import Derived.Test.YtilbglkpbjamfaaRows
namespace Go.Proofs.Ytilbglkpbjamfaa
open Go Go.Eng Go.Rw Go.Fr Go.Proofs
set_option linter.unusedVariables false
set_option maxHeartbeats 2000000 in
theorem framePieces_vc (p : List (List UInt8)) (hp : ∀ (j : Nat), (p.getD j []).length ≤ (140737488355328 : Nat)) (k : AV → List (Option Blk) → List Blk → Prop) (hk : k (AV.bool true) [] []) :
  (
   ∃ (v : Nat × List UInt8 × List Msg × Bool × Bool × List UInt8 × Nat),
   (p = p) ∧
   (true = true) ∧
   ((0 : Nat) = (0 : Nat)) ∧
   ((0 : Nat) = v.snd.fst.length) ∧
   ((0 : Nat) = (0 : Nat)) ∧
   ((0 : Nat) = v.snd.snd.fst.length) ∧
   ((0 : Int) = (↑v.fst : Int)) ∧
   ((0 : Nat) = (0 : Nat)) ∧
   ((0 : Nat) = v.snd.snd.snd.snd.snd.snd) ∧
   (false = v.snd.snd.snd.fst) ∧
   (false = v.snd.snd.snd.snd.fst) ∧
   (true = true) ∧
   ([] = v.snd.snd.snd.snd.snd.fst) ∧
   ([] = v.snd.fst) ∧
   ([] = v.snd.snd.fst) ∧
   (v.fst ≤ p.length) ∧
   (v.fst ≤ (40 : Nat)) ∧
   (v.snd.fst.length ≤ (16384 : Nat)) ∧
   (v.snd.snd.fst.length ≤ (16384 : Nat)) ∧
   (
    (v.snd.snd.snd.snd.snd.snd ≤ v.snd.snd.snd.snd.snd.fst.length) ∧
    (v.snd.snd.snd.snd.snd.snd ≤ (1043 : Nat))) ∧
   (PIn p v.fst v.snd.fst v.snd.snd.fst v.snd.snd.snd.fst v.snd.snd.snd.snd.fst (List.take v.snd.snd.snd.snd.snd.snd v.snd.snd.snd.snd.snd.fst))) ∧
  ∀ (v_1 : Nat × List UInt8 × List Msg × Bool × Bool × List UInt8 × Nat),
  (v_1.fst ≤ p.length ∧ v_1.fst ≤ (40 : Nat) ∧ v_1.snd.fst.length ≤ (16384 : Nat) ∧ v_1.snd.snd.fst.length ≤ (16384 : Nat) ∧ (v_1.snd.snd.snd.snd.snd.snd ≤ v_1.snd.snd.snd.snd.snd.fst.length ∧ v_1.snd.snd.snd.snd.snd.snd ≤ (1043 : Nat)) ∧ PIn p v_1.fst v_1.snd.fst v_1.snd.snd.fst v_1.snd.snd.snd.fst v_1.snd.snd.snd.snd.fst (List.take v_1.snd.snd.snd.snd.snd.snd v_1.snd.snd.snd.snd.snd.fst)) →
  ∀ (n3 : Int),
  (n3 = (↑p.length : Int)) →
  ((-9223372036854775808 : Int) ≤ n3 ∧ n3 ≤ (9223372036854775807 : Int)) →
  br (bif decide ((↑v_1.fst : Int) < n3) then decide ((↑v_1.fst : Int) < (40 : Int)) else false)
   (∀ (n6 : Int),
    (n6 = (↑v_1.snd.fst.length : Int)) →
    ((-9223372036854775808 : Int) ≤ n6 ∧ n6 ≤ (9223372036854775807 : Int)) →
    ((0 : Int) ≤ (↑v_1.fst : Int)) ∧
    ((↑v_1.fst : Int) < (↑p.length : Int)) ∧
    ∀ (n9 : Int),
    (n9 = (↑(p.getD (↑v_1.fst : Int).toNat (dflt (6 : Nat))).length : Int)) →
    ((-9223372036854775808 : Int) ≤ n9 ∧ n9 ≤ (9223372036854775807 : Int)) →
    ∀ (n12 : Int),
    (n12 = IntKind.i64.wrap (n6 + n9)) →
    ((-9223372036854775808 : Int) ≤ n12 ∧ n12 ≤ (9223372036854775807 : Int)) →
    br (decide (n12 > (16384 : Int)))
     ((k (AV.bool true) [] []))
     (((0 : Int) ≤ (↑v_1.fst : Int)) ∧
      ((↑v_1.fst : Int) < (↑p.length : Int)) ∧
      ((v_1.snd.fst.length + (p.getD (↑v_1.fst : Int).toNat (dflt (6 : Nat))).length) * (1 : Nat) ≤ (140737488355328 : Nat)) ∧
      ∀ (z15 : List UInt8),
      (z15 = List.take v_1.snd.fst.length v_1.snd.fst ++ p.getD (↑v_1.fst : Int).toNat (dflt (6 : Nat))) →
      ((0 : Int) ≤ (↑v_1.fst : Int)) ∧
      ((↑v_1.fst : Int) < (↑p.length : Int)) ∧
      (
       (v_1.snd.snd.snd.snd.snd.snd ≤ v_1.snd.snd.snd.snd.snd.fst.length) ∧
       (v_1.snd.snd.snd.snd.snd.snd ≤ (1043 : Nat))) ∧
      (
       ((16384 : Nat) < (p.getD (↑v_1.fst : Int).toNat (dflt (6 : Nat))).length) →
       (k (AV.bool false) [] [])) ∧
      (((p.getD (↑v_1.fst : Int).toNat (dflt (6 : Nat))).length ≤ (16384 : Nat)) →
      ∀ (b1_18 : Bool),
      ∀ (l1_19 : Bool),
      ∀ (us1_20 : List UInt8),
      ∀ (n1_21 : Nat),
      ∀ (m_22 : Nat),
      ∀ (ys_23 : List Msg),
      ((b1_18, l1_19, List.take n1_21 us1_20) = rfold (v_1.snd.snd.snd.fst, v_1.snd.snd.snd.snd.fst, List.take v_1.snd.snd.snd.snd.snd.snd v_1.snd.snd.snd.snd.snd.fst) (p.getD (↑v_1.fst : Int).toNat (dflt (6 : Nat)))) →
      (ys_23 = msgs (v_1.snd.snd.snd.fst, v_1.snd.snd.snd.snd.fst, List.take v_1.snd.snd.snd.snd.snd.snd v_1.snd.snd.snd.snd.snd.fst) (p.getD (↑v_1.fst : Int).toNat (dflt (6 : Nat)))) →
      (ys_23.length = m_22) →
      (n1_21 ≤ us1_20.length ∧ n1_21 ≤ (1043 : Nat)) →
      ((v_1.snd.snd.fst.length + m_22) * (32 : Nat) ≤ (140737488355328 : Nat)) ∧
      ∀ (z28 : List Msg),
      (z28 = List.take v_1.snd.snd.fst.length v_1.snd.snd.fst ++ List.take m_22 (List.drop (0 : Nat) ys_23)) →
      ∀ (n30 : Int),
      (n30 = IntKind.i64.wrap ((↑v_1.fst : Int) + (1 : Int))) →
      ((-9223372036854775808 : Int) ≤ n30 ∧ n30 ≤ (9223372036854775807 : Int)) →
      ∃ (v' : Nat × List UInt8 × List Msg × Bool × Bool × List UInt8 × Nat),
      (p = p) ∧
      (true = true) ∧
      ((0 : Nat) = (0 : Nat)) ∧
      (v_1.snd.fst.length + (p.getD (↑v_1.fst : Int).toNat (dflt (6 : Nat))).length = v'.snd.fst.length) ∧
      ((0 : Nat) = (0 : Nat)) ∧
      (v_1.snd.snd.fst.length + m_22 = v'.snd.snd.fst.length) ∧
      (n30 = (↑v'.fst : Int)) ∧
      ((0 : Nat) = (0 : Nat)) ∧
      (n1_21 = v'.snd.snd.snd.snd.snd.snd) ∧
      (b1_18 = v'.snd.snd.snd.fst) ∧
      (l1_19 = v'.snd.snd.snd.snd.fst) ∧
      (true = true) ∧
      (us1_20 = v'.snd.snd.snd.snd.snd.fst) ∧
      (z15 = v'.snd.fst) ∧
      (z28 = v'.snd.snd.fst) ∧
      (
       (v'.fst ≤ p.length) ∧
       (v'.fst ≤ (40 : Nat)) ∧
       (v'.snd.fst.length ≤ (16384 : Nat)) ∧
       (v'.snd.snd.fst.length ≤ (16384 : Nat)) ∧
       (
        (v'.snd.snd.snd.snd.snd.snd ≤ v'.snd.snd.snd.snd.snd.fst.length) ∧
        (v'.snd.snd.snd.snd.snd.snd ≤ (1043 : Nat))) ∧
       (PIn p v'.fst v'.snd.fst v'.snd.snd.fst v'.snd.snd.snd.fst v'.snd.snd.snd.snd.fst (List.take v'.snd.snd.snd.snd.snd.snd v'.snd.snd.snd.snd.snd.fst))) ∧
      (p.length - v'.fst < p.length - v_1.fst))))
   ((
     ((16384 : Nat) < (List.take v_1.snd.fst.length (List.drop (0 : Nat) v_1.snd.fst)).length) →
     (false = false) ∧
     (k (AV.bool false) [] [])) ∧
    (((List.take v_1.snd.fst.length (List.drop (0 : Nat) v_1.snd.fst)).length ≤ (16384 : Nat)) →
    ∀ (ys_34 : List Msg),
    ∀ (m_35 : Nat),
    ∀ (a_36 : Int),
    (ys_34 = scan (List.take v_1.snd.fst.length (List.drop (0 : Nat) v_1.snd.fst))) →
    (ys_34.length = m_35) →
    (a_36 = lastE (List.take v_1.snd.fst.length (List.drop (0 : Nat) v_1.snd.fst))) →
    ((-1 : Int) ≤ a_36 ∧ a_36 < (↑(List.take v_1.snd.fst.length (List.drop (0 : Nat) v_1.snd.fst)).length : Int)) →
    ∀ (r_41 : Bool),
    ((eqM (List.take m_35 (List.drop (0 : Nat) ys_34)) (List.take v_1.snd.snd.fst.length (List.drop (0 : Nat) v_1.snd.snd.fst))) →
     (r_41 = true)) →
    (k (AV.bool (bif true then r_41 else false)) [] []))) := by
  refine ⟨?_, ?_⟩
  · -- left
    refine ⟨(Int.toNat (0 : Int), [], [], false, false, [], (0 : Nat)), ?_⟩
    refine ⟨by first | with_reducible rfl | rfl, ?_⟩ -- p = p
    refine ⟨by first | with_reducible rfl | rfl, ?_⟩ -- true = true
    refine ⟨by first | with_reducible rfl | rfl, ?_⟩ -- (0 : Nat) = (0 : Nat)
    refine ⟨by first | with_reducible rfl | rfl, ?_⟩ -- (0 : Nat) = (0 : Nat)
    refine ⟨by first | with_reducible rfl | rfl, ?_⟩ -- (0 : Nat) = (0 : Nat)
    refine ⟨by first | with_reducible rfl | rfl, ?_⟩ -- (0 : Nat) = (0 : Nat)
    refine ⟨by show (0 : Int) = (↑(Int.toNat (0 : Int)) : Int); omega, ?_⟩ -- (0 : Int) = (↑(Int.toNat (0 : Int)) : Int)
    refine ⟨by first | with_reducible rfl | rfl, ?_⟩ -- (0 : Nat) = (0 : Nat)
    refine ⟨by first | with_reducible rfl | rfl, ?_⟩ -- (0 : Nat) = (0 : Nat)
    refine ⟨by first | with_reducible rfl | rfl, ?_⟩ -- false = false
    refine ⟨by first | with_reducible rfl | rfl, ?_⟩ -- false = false
    refine ⟨by first | with_reducible rfl | rfl, ?_⟩ -- true = true
    refine ⟨by first | with_reducible rfl | rfl, ?_⟩ -- [] = []
    refine ⟨by first | with_reducible rfl | rfl, ?_⟩ -- [] = []
    refine ⟨by first | with_reducible rfl | rfl, ?_⟩ -- [] = []
    refine ⟨by show Int.toNat (0 : Int) ≤ p.length; omega, ?_⟩ -- Int.toNat (0 : Int) ≤ p.length
    refine ⟨by show Int.toNat (0 : Int) ≤ (40 : Nat); omega, ?_⟩ -- Int.toNat (0 : Int) ≤ (40 : Nat)
    refine ⟨by show (0 : Nat) ≤ (16384 : Nat); omega, ?_⟩ -- (0 : Nat) ≤ (16384 : Nat)
    refine ⟨by show (0 : Nat) ≤ (16384 : Nat); omega, ?_⟩ -- (0 : Nat) ≤ (16384 : Nat)
    refine ⟨by first | omega | (dsimp only; omega), ?_⟩ -- (0 : Nat) ≤ (0 : Nat) ∧ (0 : Nat) ≤ (1043 : Nat)
    -- PIn p (Int.toNat (0 : Int)) [] [] false false (List.take (0 : Nat) [])
    exact ⟨rfl, rfl, rfl⟩
  intro v_1
  intro h1 -- v_1.fst ≤ p.length ∧ v_1.fst ≤ (40 : Nat) ∧ v_1.snd.fst.length ≤ (16384 : Nat) ∧ v_1.snd.snd.fst.length ≤ (16384 : Nat) ∧ (v_1.snd.snd.snd.snd.snd.snd ≤ v_1.snd.snd.snd.snd.snd.fst.length ∧ v_1.snd.snd.snd.snd.snd.snd ≤ (1043 : Nat)) ∧ PIn p v_1.fst v_1.snd.fst v_1.snd.snd.fst v_1.snd.snd.snd.fst v_1.snd.snd.snd.snd.fst (List.take v_1.snd.snd.snd.snd.snd.snd v_1.snd.snd.snd.snd.snd.fst)
  intro n3
  intro q3 -- n3 = (↑p.length : Int)
  intro ⟨l3, u3⟩ -- (-9223372036854775808 : Int) ≤ n3 ∧ n3 ≤ (9223372036854775807 : Int)
  refine br_intro (fun c2 => ?_) (fun c2 => ?_) -- bif decide ((↑v_1.fst : Int) < n3) then decide ((↑v_1.fst : Int) < (40 : Int)) else false
  · -- yes
    simp at c2 -- (↑v_1.fst : Int) < n3 ∧ (↑v_1.fst : Int) < (40 : Int)
    intro n6
    intro q6 -- n6 = (↑v_1.snd.fst.length : Int)
    intro ⟨l6, u6⟩ -- (-9223372036854775808 : Int) ≤ n6 ∧ n6 ≤ (9223372036854775807 : Int)
    refine ⟨by first | omega | (dsimp only; omega), ?_⟩ -- (0 : Int) ≤ (↑v_1.fst : Int)
    refine ⟨by first | omega | (dsimp only; omega), ?_⟩ -- (↑v_1.fst : Int) < (↑p.length : Int)
    intro n9
    intro q9 -- n9 = (↑(p.getD (↑v_1.fst : Int).toNat (dflt (6 : Nat))).length : Int)
    intro ⟨l9, u9⟩ -- (-9223372036854775808 : Int) ≤ n9 ∧ n9 ≤ (9223372036854775807 : Int)
    intro n12
    intro q12 -- n12 = IntKind.i64.wrap (n6 + n9)
    rw [IntKind.wrap_i64] at q12
    intro ⟨l12, u12⟩ -- (-9223372036854775808 : Int) ≤ n12 ∧ n12 ≤ (9223372036854775807 : Int)
    refine brd (fun c3 => ?_) (fun c3 => ?_) -- decide (n12 > (16384 : Int))
    · -- yes
      exact by exact hk -- k (AV.bool true) [] []
    · -- no
      refine ⟨by first | omega | (dsimp only; omega), ?_⟩ -- (0 : Int) ≤ (↑v_1.fst : Int)
      refine ⟨by first | omega | (dsimp only; omega), ?_⟩ -- (↑v_1.fst : Int) < (↑p.length : Int)
      have h4 : (v_1.snd.fst.length + (p.getD (↑v_1.fst : Int).toNat (dflt (6 : Nat))).length) * (1 : Nat) ≤ (140737488355328 : Nat) := by
        have hq := hp (v_1.fst : Int).toNat
        have hq : (p.getD (v_1.fst : Int).toNat (dflt 6)).length ≤ 140737488355328 := hq
        omega
      refine ⟨h4, ?_⟩
      intro z15
      intro qz15 -- z15 = List.take v_1.snd.fst.length v_1.snd.fst ++ p.getD (↑v_1.fst : Int).toNat (dflt (6 : Nat))
      refine ⟨by first | omega | (dsimp only; omega), ?_⟩ -- (0 : Int) ≤ (↑v_1.fst : Int)
      refine ⟨by first | omega | (dsimp only; omega), ?_⟩ -- (↑v_1.fst : Int) < (↑p.length : Int)
      refine ⟨by first | omega | (dsimp only; omega), ?_⟩ -- v_1.snd.snd.snd.snd.snd.snd ≤ v_1.snd.snd.snd.snd.snd.fst.length ∧ v_1.snd.snd.snd.snd.snd.snd ≤ (1043 : Nat)
      refine ⟨?_, ?_⟩
      · -- left
        intro qz15 -- (16384 : Nat) < (p.getD (↑v_1.fst : Int).toNat (dflt (6 : Nat))).length
        exact by (exfalso; omega) -- k (AV.bool false) [] []
      intro qz15 -- (p.getD (↑v_1.fst : Int).toNat (dflt (6 : Nat))).length ≤ (16384 : Nat)
      intro b1_18
      intro l1_19
      intro us1_20
      intro n1_21
      intro m_22
      intro ys_23
      intro h5 -- (b1_18, l1_19, List.take n1_21 us1_20) = rfold (v_1.snd.snd.snd.fst, v_1.snd.snd.snd.snd.fst, List.take v_1.snd.snd.snd.snd.snd.snd v_1.snd.snd.snd.snd.snd.fst) (p.getD (↑v_1.fst : Int).toNat (dflt (6 : Nat)))
      intro h6 -- ys_23 = msgs (v_1.snd.snd.snd.fst, v_1.snd.snd.snd.snd.fst, List.take v_1.snd.snd.snd.snd.snd.snd v_1.snd.snd.snd.snd.snd.fst) (p.getD (↑v_1.fst : Int).toNat (dflt (6 : Nat)))
      intro h7 -- ys_23.length = m_22
      intro ⟨a8, b8⟩ -- n1_21 ≤ us1_20.length ∧ n1_21 ≤ (1043 : Nat)
      have h9 : (v_1.snd.snd.fst.length + m_22) * (32 : Nat) ≤ (140737488355328 : Nat) := by
        have M : ys_23.length ≤ (p.getD (v_1.fst : Int).toNat (dflt 6)).length := by rw [h6]; exact msgs_len _ _
        omega
      refine ⟨h9, ?_⟩
      intro z28
      intro qz28 -- z28 = List.take v_1.snd.snd.fst.length v_1.snd.snd.fst ++ List.take m_22 (List.drop (0 : Nat) ys_23)
      intro n30
      intro q30 -- n30 = IntKind.i64.wrap ((↑v_1.fst : Int) + (1 : Int))
      rw [IntKind.wrap_i64] at q30
      intro ⟨l30, u30⟩ -- (-9223372036854775808 : Int) ≤ n30 ∧ n30 ≤ (9223372036854775807 : Int)
      refine ⟨(n30.toNat, z15, z28, b1_18, l1_19, us1_20, n1_21), ?_⟩
      refine ⟨by first | with_reducible rfl | rfl, ?_⟩ -- p = p
      refine ⟨by first | with_reducible rfl | rfl, ?_⟩ -- true = true
      refine ⟨by first | with_reducible rfl | rfl, ?_⟩ -- (0 : Nat) = (0 : Nat)
      have h10 : v_1.snd.fst.length + (p.getD (↑v_1.fst : Int).toNat (dflt (6 : Nat))).length = z15.length := by
        have Z15 : z15 = List.take v_1.snd.fst.length v_1.snd.fst ++ p.getD (v_1.fst : Int).toNat (dflt 6) := by assumption
        rw [Z15]; simp
      refine ⟨h10, ?_⟩
      refine ⟨by first | with_reducible rfl | rfl, ?_⟩ -- (0 : Nat) = (0 : Nat)
      have h11 : v_1.snd.snd.fst.length + m_22 = z28.length := by
        rw [qz28, ← h7]; simp
      refine ⟨h11, ?_⟩
      refine ⟨by show n30 = (↑n30.toNat : Int); omega, ?_⟩ -- n30 = (↑n30.toNat : Int)
      refine ⟨by first | with_reducible rfl | rfl, ?_⟩ -- (0 : Nat) = (0 : Nat)
      refine ⟨by first | with_reducible rfl | rfl, ?_⟩ -- n1_21 = n1_21
      refine ⟨by first | with_reducible rfl | rfl, ?_⟩ -- b1_18 = b1_18
      refine ⟨by first | with_reducible rfl | rfl, ?_⟩ -- l1_19 = l1_19
      refine ⟨by first | with_reducible rfl | rfl, ?_⟩ -- true = true
      refine ⟨by first | with_reducible rfl | rfl, ?_⟩ -- us1_20 = us1_20
      refine ⟨by first | with_reducible rfl | rfl, ?_⟩ -- z15 = z15
      refine ⟨by first | with_reducible rfl | rfl, ?_⟩ -- z28 = z28
      refine ⟨?_, ?_⟩
      · -- left
        refine ⟨by show n30.toNat ≤ p.length; omega, ?_⟩ -- n30.toNat ≤ p.length
        refine ⟨by show n30.toNat ≤ (40 : Nat); omega, ?_⟩ -- n30.toNat ≤ (40 : Nat)
        refine ⟨by show z15.length ≤ (16384 : Nat); omega, ?_⟩ -- z15.length ≤ (16384 : Nat)
        have h12 : z28.length ≤ (16384 : Nat) := by
          have Z15 : z15 = List.take v_1.snd.fst.length v_1.snd.fst ++ p.getD (v_1.fst : Int).toNat (dflt 6) := by assumption
          have P : PIn p n30.toNat z15 z28 b1_18 l1_19 (List.take n1_21 us1_20) := by
            simp only [Int.toNat_natCast] at h5 h6 Z15
            exact pin_step h1.2.2.2.2.2 (by omega) (by omega) (by rw [Z15, List.take_length]; rfl) h5 h6 (by rw [qz28, ← h7, List.drop_zero, List.take_length, List.take_length])
          have M := msgs_len z15 (false, false, [])
          rw [← P.c3] at M
          have hq := hp (v_1.fst : Int).toNat
          have hq : (p.getD (v_1.fst : Int).toNat (dflt 6)).length ≤ 140737488355328 := hq
          have L : z15.length = v_1.snd.fst.length + (p.getD (v_1.fst : Int).toNat (dflt 6)).length := by rw [Z15]; simp
          omega
        refine ⟨h12, ?_⟩
        refine ⟨by exact ⟨by assumption, by assumption⟩, ?_⟩ -- n1_21 ≤ us1_20.length ∧ n1_21 ≤ (1043 : Nat)
        -- PIn p n30.toNat z15 z28 b1_18 l1_19 (List.take n1_21 us1_20)
        have Z15 : z15 = List.take v_1.snd.fst.length v_1.snd.fst ++ p.getD (v_1.fst : Int).toNat (dflt 6) := by assumption
        have P : PIn p n30.toNat z15 z28 b1_18 l1_19 (List.take n1_21 us1_20) := by
          simp only [Int.toNat_natCast] at h5 h6 Z15
          exact pin_step h1.2.2.2.2.2 (by omega) (by omega) (by rw [Z15, List.take_length]; rfl) h5 h6 (by rw [qz28, ← h7, List.drop_zero, List.take_length, List.take_length])
        exact P
      exact by show p.length - n30.toNat < p.length - v_1.fst; omega -- p.length - n30.toNat < p.length - v_1.fst
  · -- no
    simp at c2 -- (↑v_1.fst : Int) < n3 → (40 : Int) ≤ (↑v_1.fst : Int)
    refine ⟨?_, ?_⟩
    · -- left
      intro h13 -- (16384 : Nat) < (List.take v_1.snd.fst.length (List.drop (0 : Nat) v_1.snd.fst)).length
      refine ⟨by with_reducible rfl, ?_⟩ -- false = false
      -- k (AV.bool false) [] []
      exfalso
      rw [List.drop_zero, List.length_take] at h13
      omega
    intro h14 -- (List.take v_1.snd.fst.length (List.drop (0 : Nat) v_1.snd.fst)).length ≤ (16384 : Nat)
    intro ys_34
    intro m_35
    intro a_36
    intro h15 -- ys_34 = scan (List.take v_1.snd.fst.length (List.drop (0 : Nat) v_1.snd.fst))
    intro h16 -- ys_34.length = m_35
    intro h17 -- a_36 = lastE (List.take v_1.snd.fst.length (List.drop (0 : Nat) v_1.snd.fst))
    intro ⟨a18, b18⟩ -- (-1 : Int) ≤ a_36 ∧ a_36 < (↑(List.take v_1.snd.fst.length (List.drop (0 : Nat) v_1.snd.fst)).length : Int)
    intro r_41
    intro h19 -- eqM (List.take m_35 (List.drop (0 : Nat) ys_34)) (List.take v_1.snd.snd.fst.length (List.drop (0 : Nat) v_1.snd.snd.fst)) → r_41 = true
    -- k (AV.bool (bif true then r_41 else false)) [] []
    exact k_true hk (h19 ⟨by rw [List.drop_zero, List.drop_zero, ← h16, List.take_length, List.take_length, h15, List.drop_zero, List.take_length]; exact h1.2.2.2.2.2.c3.symm⟩)

theorem framePieces_ok : Holds Try.prog 7 lawPieces := by
  refine fn_sound (env := mkEnv T6) (tab_ok T6_ok) Try.func7 Try.call7 fun args k h => ?_
  match args, h with
  | [.sl 6 p], h => exact ⟨by kernel_rfl, piecesLoops p, fun _ _ => none, .cast (by kernel_rfl) (framePieces_vc p h.1 k h.2)⟩
set_option maxHeartbeats 2000000 in
theorem frameFound_vc (a : List UInt8) (l : List Msg) (b : List UInt8) (k : AV → List (Option Blk) → List Blk → Prop) (hk : k (AV.bool true) [] []) :
  ∀ (n1 : Int),
  (n1 = (↑a.length : Int)) →
  ((-9223372036854775808 : Int) ≤ n1 ∧ n1 ≤ (9223372036854775807 : Int)) →
  ∀ (n4 : Int),
  (n4 = (↑b.length : Int)) →
  ∀ (n6 : Int),
  (n6 = (↑l.length : Int)) →
  ∀ (n8 : Int),
  (n8 = (↑l.length : Int)) →
  br (bif bif bif decide (n1 > (3000 : Int)) then true else decide (n4 > (3000 : Int)) then true else decide (n6 > (5 : Int)) then true else decide (n8 < (1 : Int)))
   ((k (AV.bool true) [] []))
   ((l.length ≤ (100 : Nat)) ∧
    (
     ∀ (n10 : Int),
     (n10 = (0 : Int)) →
     (k (AV.bool true) [] [])) ∧
    ((okM l) →
    ∀ (ys_11 : List UInt8),
    ∀ (n_12 : Nat),
    (ys_11 = frs l) →
    (ys_11.length = n_12) →
    ∀ (n15 : Int),
    (n15 = (↑n_12 : Int)) →
    br (bif !true then true else decide (n15 > (8000 : Int)))
     ((k (AV.bool true) [] []))
     ((a.length * (1 : Nat) ≤ (140737488355328 : Nat)) ∧
      ∀ (z17 : List UInt8),
      (z17 = a) →
      ((a.length + n_12) * (1 : Nat) ≤ (140737488355328 : Nat)) ∧
      ∀ (z19 : List UInt8),
      (z19 = List.take a.length z17 ++ List.take n_12 (List.drop (0 : Nat) ys_11)) →
      ((a.length + n_12 + b.length) * (1 : Nat) ≤ (140737488355328 : Nat)) ∧
      ∀ (z21 : List UInt8),
      (z21 = List.take (a.length + n_12) z19 ++ b) →
      (
       ((16384 : Nat) < (List.take (a.length + n_12 + b.length) (List.drop (0 : Nat) z21)).length) →
       (a.length * (1 : Nat) ≤ (140737488355328 : Nat)) ∧
       ∀ (z23 : List UInt8),
       (z23 = a) →
       ((a.length + (1 : Nat)) * (1 : Nat) ≤ (140737488355328 : Nat)) ∧
       ∀ (z25 : List UInt8),
       (z25 = List.take a.length z23 ++ List.take (1 : Nat) (List.drop (0 : Nat) [UInt8.ofNat (Int.toNat (126 : Int))])) →
       (
        ((16384 : Nat) < (List.take (a.length + (1 : Nat)) (List.drop (0 : Nat) z25)).length) →
        (((1 : Nat) + b.length) * (1 : Nat) ≤ (140737488355328 : Nat)) ∧
        ∀ (z27 : List UInt8),
        (z27 = List.take (1 : Nat) [UInt8.ofNat (Int.toNat (126 : Int))] ++ b) →
        (
         ((16384 : Nat) < (List.take ((1 : Nat) + b.length) (List.drop (0 : Nat) z27)).length) →
         (false = false) ∧
         (k (AV.bool false) [] [])) ∧
        (((List.take ((1 : Nat) + b.length) (List.drop (0 : Nat) z27)).length ≤ (16384 : Nat)) →
        ∀ (ys_30 : List Msg),
        ∀ (m_31 : Nat),
        ∀ (a_32 : Int),
        (ys_30 = scan (List.take ((1 : Nat) + b.length) (List.drop (0 : Nat) z27))) →
        (ys_30.length = m_31) →
        (a_32 = lastE (List.take ((1 : Nat) + b.length) (List.drop (0 : Nat) z27))) →
        ((-1 : Int) ≤ a_32 ∧ a_32 < (↑(List.take ((1 : Nat) + b.length) (List.drop (0 : Nat) z27)).length : Int)) →
        (false = false) ∧
        (k (AV.bool false) [] []))) ∧
       (((List.take (a.length + (1 : Nat)) (List.drop (0 : Nat) z25)).length ≤ (16384 : Nat)) →
       ∀ (ys_37 : List Msg),
       ∀ (m_38 : Nat),
       ∀ (a_39 : Int),
       (ys_37 = scan (List.take (a.length + (1 : Nat)) (List.drop (0 : Nat) z25))) →
       (ys_37.length = m_38) →
       (a_39 = lastE (List.take (a.length + (1 : Nat)) (List.drop (0 : Nat) z25))) →
       ((-1 : Int) ≤ a_39 ∧ a_39 < (↑(List.take (a.length + (1 : Nat)) (List.drop (0 : Nat) z25)).length : Int)) →
       (((1 : Nat) + b.length) * (1 : Nat) ≤ (140737488355328 : Nat)) ∧
       ∀ (z43 : List UInt8),
       (z43 = List.take (1 : Nat) [UInt8.ofNat (Int.toNat (126 : Int))] ++ b) →
       (
        ((16384 : Nat) < (List.take ((1 : Nat) + b.length) (List.drop (0 : Nat) z43)).length) →
        (false = false) ∧
        (k (AV.bool false) [] [])) ∧
       (((List.take ((1 : Nat) + b.length) (List.drop (0 : Nat) z43)).length ≤ (16384 : Nat)) →
       ∀ (ys_46 : List Msg),
       ∀ (m_47 : Nat),
       ∀ (a_48 : Int),
       (ys_46 = scan (List.take ((1 : Nat) + b.length) (List.drop (0 : Nat) z43))) →
       (ys_46.length = m_47) →
       (a_48 = lastE (List.take ((1 : Nat) + b.length) (List.drop (0 : Nat) z43))) →
       ((-1 : Int) ≤ a_48 ∧ a_48 < (↑(List.take ((1 : Nat) + b.length) (List.drop (0 : Nat) z43)).length : Int)) →
       (false = false) ∧
       (k (AV.bool false) [] [])))) ∧
      (((List.take (a.length + n_12 + b.length) (List.drop (0 : Nat) z21)).length ≤ (16384 : Nat)) →
      ∀ (ys_53 : List Msg),
      ∀ (m_54 : Nat),
      ∀ (a_55 : Int),
      (ys_53 = scan (List.take (a.length + n_12 + b.length) (List.drop (0 : Nat) z21))) →
      (ys_53.length = m_54) →
      (a_55 = lastE (List.take (a.length + n_12 + b.length) (List.drop (0 : Nat) z21))) →
      ((-1 : Int) ≤ a_55 ∧ a_55 < (↑(List.take (a.length + n_12 + b.length) (List.drop (0 : Nat) z21)).length : Int)) →
      (a.length * (1 : Nat) ≤ (140737488355328 : Nat)) ∧
      ∀ (z60 : List UInt8),
      (z60 = a) →
      ((a.length + (1 : Nat)) * (1 : Nat) ≤ (140737488355328 : Nat)) ∧
      ∀ (z62 : List UInt8),
      (z62 = List.take a.length z60 ++ List.take (1 : Nat) (List.drop (0 : Nat) [UInt8.ofNat (Int.toNat (126 : Int))])) →
      (
       ((16384 : Nat) < (List.take (a.length + (1 : Nat)) (List.drop (0 : Nat) z62)).length) →
       (((1 : Nat) + b.length) * (1 : Nat) ≤ (140737488355328 : Nat)) ∧
       ∀ (z64 : List UInt8),
       (z64 = List.take (1 : Nat) [UInt8.ofNat (Int.toNat (126 : Int))] ++ b) →
       (
        ((16384 : Nat) < (List.take ((1 : Nat) + b.length) (List.drop (0 : Nat) z64)).length) →
        (false = false) ∧
        (k (AV.bool false) [] [])) ∧
       (((List.take ((1 : Nat) + b.length) (List.drop (0 : Nat) z64)).length ≤ (16384 : Nat)) →
       ∀ (ys_67 : List Msg),
       ∀ (m_68 : Nat),
       ∀ (a_69 : Int),
       (ys_67 = scan (List.take ((1 : Nat) + b.length) (List.drop (0 : Nat) z64))) →
       (ys_67.length = m_68) →
       (a_69 = lastE (List.take ((1 : Nat) + b.length) (List.drop (0 : Nat) z64))) →
       ((-1 : Int) ≤ a_69 ∧ a_69 < (↑(List.take ((1 : Nat) + b.length) (List.drop (0 : Nat) z64)).length : Int)) →
       (false = false) ∧
       (k (AV.bool false) [] []))) ∧
      (((List.take (a.length + (1 : Nat)) (List.drop (0 : Nat) z62)).length ≤ (16384 : Nat)) →
      ∀ (ys_74 : List Msg),
      ∀ (m_75 : Nat),
      ∀ (a_76 : Int),
      (ys_74 = scan (List.take (a.length + (1 : Nat)) (List.drop (0 : Nat) z62))) →
      (ys_74.length = m_75) →
      (a_76 = lastE (List.take (a.length + (1 : Nat)) (List.drop (0 : Nat) z62))) →
      ((-1 : Int) ≤ a_76 ∧ a_76 < (↑(List.take (a.length + (1 : Nat)) (List.drop (0 : Nat) z62)).length : Int)) →
      (((1 : Nat) + b.length) * (1 : Nat) ≤ (140737488355328 : Nat)) ∧
      ∀ (z81 : List UInt8),
      (z81 = List.take (1 : Nat) [UInt8.ofNat (Int.toNat (126 : Int))] ++ b) →
      (
       ((16384 : Nat) < (List.take ((1 : Nat) + b.length) (List.drop (0 : Nat) z81)).length) →
       (false = false) ∧
       (k (AV.bool false) [] [])) ∧
      (((List.take ((1 : Nat) + b.length) (List.drop (0 : Nat) z81)).length ≤ (16384 : Nat)) →
      ∀ (ys_84 : List Msg),
      ∀ (m_85 : Nat),
      ∀ (a_86 : Int),
      (ys_84 = scan (List.take ((1 : Nat) + b.length) (List.drop (0 : Nat) z81))) →
      (ys_84.length = m_85) →
      (a_86 = lastE (List.take ((1 : Nat) + b.length) (List.drop (0 : Nat) z81))) →
      ((-1 : Int) ≤ a_86 ∧ a_86 < (↑(List.take ((1 : Nat) + b.length) (List.drop (0 : Nat) z81)).length : Int)) →
      (m_75 * (32 : Nat) ≤ (140737488355328 : Nat)) ∧
      ∀ (z91 : List Msg),
      (z91 = List.take m_75 (List.drop (0 : Nat) ys_74)) →
      ((m_75 + l.length) * (32 : Nat) ≤ (140737488355328 : Nat)) ∧
      ∀ (z93 : List Msg),
      (z93 = List.take m_75 z91 ++ l) →
      ((m_75 + l.length + m_85) * (32 : Nat) ≤ (140737488355328 : Nat)) ∧
      ∀ (z95 : List Msg),
      (z95 = List.take (m_75 + l.length) z93 ++ List.take m_85 (List.drop (0 : Nat) ys_84)) →
      ∀ (r_97 : Bool),
      ((eqM (List.take m_54 (List.drop (0 : Nat) ys_53)) (List.take (m_75 + l.length + m_85) (List.drop (0 : Nat) z95))) →
       (r_97 = true)) →
      (k (AV.bool (bif true then r_97 else false)) [] []))))))) := by
  intro n1
  intro q1 -- n1 = (↑a.length : Int)
  intro ⟨l1, u1⟩ -- (-9223372036854775808 : Int) ≤ n1 ∧ n1 ≤ (9223372036854775807 : Int)
  intro n4
  intro q4 -- n4 = (↑b.length : Int)
  intro n6
  intro q6 -- n6 = (↑l.length : Int)
  intro n8
  intro q8 -- n8 = (↑l.length : Int)
  refine br_intro (fun c1 => ?_) (fun c1 => ?_) -- bif bif bif decide (n1 > (3000 : Int)) then true else decide (n4 > (3000 : Int)) then true else decide (n6 > (5 : Int)) then true else decide (n8 < (1 : Int))
  · -- yes
    simp at c1 -- (((3000 : Int) < n1 ∨ (3000 : Int) < n4) ∨ (5 : Int) < n6) ∨ n8 < (1 : Int)
    exact by exact hk -- k (AV.bool true) [] []
  · -- no
    simp at c1 -- ((n1 ≤ (3000 : Int) ∧ n4 ≤ (3000 : Int)) ∧ n6 ≤ (5 : Int)) ∧ (1 : Int) ≤ n8
    refine ⟨by first | omega | (dsimp only; omega), ?_⟩ -- l.length ≤ (100 : Nat)
    refine ⟨?_, ?_⟩
    · -- left
      intro n10
      intro q10 -- n10 = (0 : Int)
      exact by exact hk -- k (AV.bool true) [] []
    intro q10 -- okM l
    intro ys_11
    intro n_12
    intro h2 -- ys_11 = frs l
    intro h3 -- ys_11.length = n_12
    intro n15
    intro q15 -- n15 = (↑n_12 : Int)
    refine br_intro (fun c4 => ?_) (fun c4 => ?_) -- bif !true then true else decide (n15 > (8000 : Int))
    · -- yes
      simp at c4 -- (8000 : Int) < n15
      exact by exact hk -- k (AV.bool true) [] []
    · -- no
      simp at c4 -- n15 ≤ (8000 : Int)
      refine ⟨by first | omega | (dsimp only; omega), ?_⟩ -- a.length * (1 : Nat) ≤ (140737488355328 : Nat)
      intro z17
      intro qz17 -- z17 = a
      refine ⟨by first | omega | (dsimp only; omega), ?_⟩ -- (a.length + n_12) * (1 : Nat) ≤ (140737488355328 : Nat)
      intro z19
      intro qz19 -- z19 = List.take a.length z17 ++ List.take n_12 (List.drop (0 : Nat) ys_11)
      refine ⟨by first | omega | (dsimp only; omega), ?_⟩ -- (a.length + n_12 + b.length) * (1 : Nat) ≤ (140737488355328 : Nat)
      intro z21
      intro qz21 -- z21 = List.take (a.length + n_12) z19 ++ b
      refine ⟨?_, ?_⟩
      · -- left
        intro qz21 -- (16384 : Nat) < (List.take (a.length + n_12 + b.length) (List.drop (0 : Nat) z21)).length
        refine ⟨by first | omega | (dsimp only; omega), ?_⟩ -- a.length * (1 : Nat) ≤ (140737488355328 : Nat)
        intro z23
        intro qz23 -- z23 = a
        refine ⟨by first | omega | (dsimp only; omega), ?_⟩ -- (a.length + (1 : Nat)) * (1 : Nat) ≤ (140737488355328 : Nat)
        intro z25
        intro qz25 -- z25 = List.take a.length z23 ++ List.take (1 : Nat) (List.drop (0 : Nat) [UInt8.ofNat (Int.toNat (126 : Int))])
        refine ⟨?_, ?_⟩
        · -- left
          intro qz25 -- (16384 : Nat) < (List.take (a.length + (1 : Nat)) (List.drop (0 : Nat) z25)).length
          refine ⟨by first | omega | (dsimp only; omega), ?_⟩ -- ((1 : Nat) + b.length) * (1 : Nat) ≤ (140737488355328 : Nat)
          intro z27
          intro qz27 -- z27 = List.take (1 : Nat) [UInt8.ofNat (Int.toNat (126 : Int))] ++ b
          refine ⟨?_, ?_⟩
          · -- left
            intro qz27 -- (16384 : Nat) < (List.take ((1 : Nat) + b.length) (List.drop (0 : Nat) z27)).length
            refine ⟨by with_reducible rfl, ?_⟩ -- false = false
            -- k (AV.bool false) [] []
            exfalso
            simp only [List.drop_zero, List.length_take] at *
            omega
          intro qz27 -- (List.take ((1 : Nat) + b.length) (List.drop (0 : Nat) z27)).length ≤ (16384 : Nat)
          intro ys_30
          intro m_31
          intro a_32
          intro h5 -- ys_30 = scan (List.take ((1 : Nat) + b.length) (List.drop (0 : Nat) z27))
          intro h6 -- ys_30.length = m_31
          intro h7 -- a_32 = lastE (List.take ((1 : Nat) + b.length) (List.drop (0 : Nat) z27))
          intro ⟨a8, b8⟩ -- (-1 : Int) ≤ a_32 ∧ a_32 < (↑(List.take ((1 : Nat) + b.length) (List.drop (0 : Nat) z27)).length : Int)
          refine ⟨by with_reducible rfl, ?_⟩ -- false = false
          -- k (AV.bool false) [] []
          exfalso
          simp only [List.drop_zero, List.length_take] at *
          omega
        intro h9 -- (List.take (a.length + (1 : Nat)) (List.drop (0 : Nat) z25)).length ≤ (16384 : Nat)
        intro ys_37
        intro m_38
        intro a_39
        intro h10 -- ys_37 = scan (List.take (a.length + (1 : Nat)) (List.drop (0 : Nat) z25))
        intro h11 -- ys_37.length = m_38
        intro h12 -- a_39 = lastE (List.take (a.length + (1 : Nat)) (List.drop (0 : Nat) z25))
        intro ⟨a13, b13⟩ -- (-1 : Int) ≤ a_39 ∧ a_39 < (↑(List.take (a.length + (1 : Nat)) (List.drop (0 : Nat) z25)).length : Int)
        refine ⟨by first | omega | (dsimp only; omega), ?_⟩ -- ((1 : Nat) + b.length) * (1 : Nat) ≤ (140737488355328 : Nat)
        intro z43
        intro qz43 -- z43 = List.take (1 : Nat) [UInt8.ofNat (Int.toNat (126 : Int))] ++ b
        refine ⟨?_, ?_⟩
        · -- left
          intro qz43 -- (16384 : Nat) < (List.take ((1 : Nat) + b.length) (List.drop (0 : Nat) z43)).length
          refine ⟨by with_reducible rfl, ?_⟩ -- false = false
          -- k (AV.bool false) [] []
          exfalso
          simp only [List.drop_zero, List.length_take] at *
          omega
        intro qz43 -- (List.take ((1 : Nat) + b.length) (List.drop (0 : Nat) z43)).length ≤ (16384 : Nat)
        intro ys_46
        intro m_47
        intro a_48
        intro h14 -- ys_46 = scan (List.take ((1 : Nat) + b.length) (List.drop (0 : Nat) z43))
        intro h15 -- ys_46.length = m_47
        intro h16 -- a_48 = lastE (List.take ((1 : Nat) + b.length) (List.drop (0 : Nat) z43))
        intro ⟨a17, b17⟩ -- (-1 : Int) ≤ a_48 ∧ a_48 < (↑(List.take ((1 : Nat) + b.length) (List.drop (0 : Nat) z43)).length : Int)
        refine ⟨by with_reducible rfl, ?_⟩ -- false = false
        -- k (AV.bool false) [] []
        exfalso
        simp only [List.drop_zero, List.length_take] at *
        omega
      intro h18 -- (List.take (a.length + n_12 + b.length) (List.drop (0 : Nat) z21)).length ≤ (16384 : Nat)
      intro ys_53
      intro m_54
      intro a_55
      intro h19 -- ys_53 = scan (List.take (a.length + n_12 + b.length) (List.drop (0 : Nat) z21))
      intro h20 -- ys_53.length = m_54
      intro h21 -- a_55 = lastE (List.take (a.length + n_12 + b.length) (List.drop (0 : Nat) z21))
      intro ⟨a22, b22⟩ -- (-1 : Int) ≤ a_55 ∧ a_55 < (↑(List.take (a.length + n_12 + b.length) (List.drop (0 : Nat) z21)).length : Int)
      refine ⟨by first | omega | (dsimp only; omega), ?_⟩ -- a.length * (1 : Nat) ≤ (140737488355328 : Nat)
      intro z60
      intro qz60 -- z60 = a
      refine ⟨by first | omega | (dsimp only; omega), ?_⟩ -- (a.length + (1 : Nat)) * (1 : Nat) ≤ (140737488355328 : Nat)
      intro z62
      intro qz62 -- z62 = List.take a.length z60 ++ List.take (1 : Nat) (List.drop (0 : Nat) [UInt8.ofNat (Int.toNat (126 : Int))])
      refine ⟨?_, ?_⟩
      · -- left
        intro qz62 -- (16384 : Nat) < (List.take (a.length + (1 : Nat)) (List.drop (0 : Nat) z62)).length
        refine ⟨by first | omega | (dsimp only; omega), ?_⟩ -- ((1 : Nat) + b.length) * (1 : Nat) ≤ (140737488355328 : Nat)
        intro z64
        intro qz64 -- z64 = List.take (1 : Nat) [UInt8.ofNat (Int.toNat (126 : Int))] ++ b
        refine ⟨?_, ?_⟩
        · -- left
          intro qz64 -- (16384 : Nat) < (List.take ((1 : Nat) + b.length) (List.drop (0 : Nat) z64)).length
          refine ⟨by with_reducible rfl, ?_⟩ -- false = false
          -- k (AV.bool false) [] []
          exfalso
          simp only [List.drop_zero, List.length_take] at *
          omega
        intro qz64 -- (List.take ((1 : Nat) + b.length) (List.drop (0 : Nat) z64)).length ≤ (16384 : Nat)
        intro ys_67
        intro m_68
        intro a_69
        intro h23 -- ys_67 = scan (List.take ((1 : Nat) + b.length) (List.drop (0 : Nat) z64))
        intro h24 -- ys_67.length = m_68
        intro h25 -- a_69 = lastE (List.take ((1 : Nat) + b.length) (List.drop (0 : Nat) z64))
        intro ⟨a26, b26⟩ -- (-1 : Int) ≤ a_69 ∧ a_69 < (↑(List.take ((1 : Nat) + b.length) (List.drop (0 : Nat) z64)).length : Int)
        refine ⟨by with_reducible rfl, ?_⟩ -- false = false
        -- k (AV.bool false) [] []
        exfalso
        simp only [List.drop_zero, List.length_take] at *
        omega
      intro h27 -- (List.take (a.length + (1 : Nat)) (List.drop (0 : Nat) z62)).length ≤ (16384 : Nat)
      intro ys_74
      intro m_75
      intro a_76
      intro h28 -- ys_74 = scan (List.take (a.length + (1 : Nat)) (List.drop (0 : Nat) z62))
      intro h29 -- ys_74.length = m_75
      intro h30 -- a_76 = lastE (List.take (a.length + (1 : Nat)) (List.drop (0 : Nat) z62))
      intro ⟨a31, b31⟩ -- (-1 : Int) ≤ a_76 ∧ a_76 < (↑(List.take (a.length + (1 : Nat)) (List.drop (0 : Nat) z62)).length : Int)
      refine ⟨by first | omega | (dsimp only; omega), ?_⟩ -- ((1 : Nat) + b.length) * (1 : Nat) ≤ (140737488355328 : Nat)
      intro z81
      intro qz81 -- z81 = List.take (1 : Nat) [UInt8.ofNat (Int.toNat (126 : Int))] ++ b
      refine ⟨?_, ?_⟩
      · -- left
        intro qz81 -- (16384 : Nat) < (List.take ((1 : Nat) + b.length) (List.drop (0 : Nat) z81)).length
        refine ⟨by with_reducible rfl, ?_⟩ -- false = false
        -- k (AV.bool false) [] []
        exfalso
        simp only [List.drop_zero, List.length_take] at *
        omega
      intro qz81 -- (List.take ((1 : Nat) + b.length) (List.drop (0 : Nat) z81)).length ≤ (16384 : Nat)
      intro ys_84
      intro m_85
      intro a_86
      intro h32 -- ys_84 = scan (List.take ((1 : Nat) + b.length) (List.drop (0 : Nat) z81))
      intro h33 -- ys_84.length = m_85
      intro h34 -- a_86 = lastE (List.take ((1 : Nat) + b.length) (List.drop (0 : Nat) z81))
      intro ⟨a35, b35⟩ -- (-1 : Int) ≤ a_86 ∧ a_86 < (↑(List.take ((1 : Nat) + b.length) (List.drop (0 : Nat) z81)).length : Int)
      have h36 : m_75 * (32 : Nat) ≤ (140737488355328 : Nat) := by
        have M : ys_74.length ≤ (List.take (a.length + 1) (List.drop 0 z62)).length := by rw [h28]; exact msgs_len _ _
        rw [List.length_take] at M
        omega
      refine ⟨h36, ?_⟩
      intro z91
      intro qz91 -- z91 = List.take m_75 (List.drop (0 : Nat) ys_74)
      have h37 : (m_75 + l.length) * (32 : Nat) ≤ (140737488355328 : Nat) := by
        have M : ys_74.length ≤ (List.take (a.length + 1) (List.drop 0 z62)).length := by rw [h28]; exact msgs_len _ _
        rw [List.length_take] at M
        omega
      refine ⟨h37, ?_⟩
      intro z93
      intro qz93 -- z93 = List.take m_75 z91 ++ l
      have h38 : (m_75 + l.length + m_85) * (32 : Nat) ≤ (140737488355328 : Nat) := by
        have M : ys_74.length ≤ (List.take (a.length + 1) (List.drop 0 z62)).length := by rw [h28]; exact msgs_len _ _
        rw [List.length_take] at M
        have M2 : ys_84.length ≤ (List.take (1 + b.length) (List.drop 0 z81)).length := by rw [h32]; exact msgs_len _ _
        rw [List.length_take] at M2
        omega
      refine ⟨h38, ?_⟩
      intro z95
      intro qz95 -- z95 = List.take (m_75 + l.length) z93 ++ List.take m_85 (List.drop (0 : Nat) ys_84)
      intro r_97
      intro h39 -- eqM (List.take m_54 (List.drop (0 : Nat) ys_53)) (List.take (m_75 + l.length + m_85) (List.drop (0 : Nat) z95)) → r_97 = true
      -- k (AV.bool (bif true then r_97 else false)) [] []
      have Z81 : z81 = List.take 1 [UInt8.ofNat (Int.toNat 126)] ++ b := by assumption
      have e12 : n_12 = (frs l).length := by rw [← h3, h2]
      have A1 : z19 = a ++ frs l := by rw [qz19, qz17, e12, h2, List.drop_zero, List.take_length, List.take_length]
      have A2 : z21 = a ++ frs l ++ b := by rw [qz21, A1, e12, List.take_of_length_le (by simp)]
      have A3 : List.take (a.length + n_12 + b.length) (List.drop 0 z21) = a ++ frs l ++ b := by rw [List.drop_zero, A2, e12, List.take_of_length_le (by simp; omega)]
      have B1 : z62 = a ++ [126] := by rw [qz62, qz60, List.take_length]; rfl
      have B2 : List.take (a.length + 1) (List.drop 0 z62) = a ++ [126] := by rw [List.drop_zero, B1, List.take_of_length_le (by simp)]
      have C2 : List.take (1 + b.length) (List.drop 0 z81) = [126] ++ b := by
        rw [List.drop_zero, Z81, List.take_of_length_le (by simp; omega)]; rfl
      have D1 : z93 = ys_74 ++ l := by rw [qz93, qz91, ← h29, List.drop_zero, List.take_length, List.take_length]
      have D2 : z95 = ys_74 ++ l ++ ys_84 := by rw [qz95, D1, ← h29, ← h33, List.drop_zero, List.take_length, List.take_of_length_le (by simp)]
      have D3 : List.take (m_75 + l.length + m_85) (List.drop 0 z95) = ys_74 ++ l ++ ys_84 := by rw [List.drop_zero, D2, ← h29, ← h33, List.take_of_length_le (by simp; omega)]
      have ne : l ≠ [] := fun e => by rw [e] at q8; simp at q8; omega
      refine k_true hk (h39 ⟨?_⟩)
      rw [D3, ← h20, List.drop_zero, List.take_length, h19, A3, h28, B2, h32, C2]
      exact found ne q10.e

theorem frameFound_ok : Holds Try.prog 6 lawFound := by
  refine fn_sound (env := mkEnv T6) (tab_ok T6_ok) Try.func6 Try.call6 fun args k h => ?_
  match args, h with
  | [.sl 0 a, .sl 8 l, .sl 0 b], h => exact ⟨by kernel_rfl, fun _ _ => none, fun _ _ => none, .cast (by kernel_rfl) (frameFound_vc a l b k h)⟩
end Go.Proofs.Ytilbglkpbjamfaa
namespace Go.Proofs.Ytilbglkpbjamfaa
open Go.ChangeShapes Go.WideShapes Go.ChangeAt Go.RowKit Go.Eng
set_option linter.unusedVariables false

theorem ownP : ownKnob Try.prog.godebug = none := by kernel_rfl
theorem laidP : laidOutB Try.prog = true := by kernel_rfl

set_option maxHeartbeats 800000 in
set_option maxRecDepth 100000 in
theorem framePiecesLifted (os : Os) (started : os.Started) (H : Type) (enc : TypeId × Value → H) :
    ReturnsInHanded {} Try.checked os 7 .any (Rows.framePiecesSpec.pre6 enc Try.prog Try.f7 Rows.framePiecesRow.domain false) (Rows.framePiecesSpec.post enc Try.prog Try.f7 false true false false) := by
  refine returnsInHanded_of_change_sized (C := Try.checked) ownP started (by kernel_rfl) Try.func7
    (ChangeSpec.witness6 (enc := enc) (C := Try.checked) false ⟨#[], #[.slice none 0 0], []⟩ 8 (by kernel_rfl) (by kernel_rfl) (by kernel_rfl) (by kernel_rfl)) ?_
  intro W base args ds gs before hval0 hW hcnd hsz _
  have hval : ∀ (j : Nat) t v, Try.f7.params[j]? = some t → args[j]? = some v → Value.okWide Try.prog W .any base t v := hval0
  have hW' := hW
  obtain ⟨p, q, hA0, hV, rfl, hfz, hnd⟩ := hW
  have hA : DataW.TrodAll enc Try.prog W 0 (fun _ => true) true Try.f7.params.toList args.toList ds p := hA0
  rw [Try.params7] at hA hval
  obtain ⟨v0, vs0, d0, ds0, p0, q0, hargs, rfl, rfl, h0, r0⟩ := trodAll_cons hA
  obtain ⟨rfl, rfl, rfl⟩ := trodAll_nil r0
  obtain rfl : args = #[v0] := by cases args; simp_all
  obtain ⟨rfl, rfl⟩ := trodVars_none hV
  have k0 := h0
  have lt0 : ∀ x ∈ p0, x.block < W.heap.size := by obtain ⟨m, hm⟩ := k0; exact DataW.trod_lt m _ _ _ hm
  obtain ⟨xs0, w0, z0⟩ : ∃ xs : List (ty 6), Rep W (· < W.heap.size) noIds v0 (.sl 6 xs) ∧ DSz (DSz Z0) d0 xs := by
    obtain ⟨fuel, hf⟩ := h0
    exact rep_in (c := 6) (by decide) Try.underlying40 (by kernel_rfl) (cells_bytes Try.underlying23 Try.underlying5 (by kernel_rfl)) (hval 0 40 v0 rfl rfl) hf
  clear hA0 hval0
  have hm0 : ∀ j : Nat, (xs0.getD j []).length ≤ 140737488355328 := reach_inner hsz (j := 0) (t := 40) (by rw [Try.params7]; rfl) rfl Try.underlying40 Try.underlying23 (by decide +kernel) z0
  refine (calls_of_holds framePieces_ok Try.call7 (w := W) (vals := #[v0]) (args := [.sl 6 xs0]) rfl (fun j v hj => ?_) ⟨hm0, rfl⟩).mono fun e W' ⟨he, bel⟩ => ?_
  · rcases j with _ | j
    · simp at hj; subst hj; exact w0
    · simp at hj
  subst he
  exact ⟨_, rfl, _, _, _, [], _, [], hW', trodAll_mk1 (shut_bool Try.underlying4 _), (trodAll_cons_mk (Below.trod laidP (by kernel_rfl) (of_decide_eq_true (by kernel_rfl)) k0 bel lt0) trodAll_mk0), rfl, bel.frame _, fun h => by cases h⟩

theorem framePieces_said : Rows.FramePiecesSaid :=
  OpenClaim.holds_of_wide 7 Try.f7 rfl rfl rfl rfl rfl rfl rfl ⟨rfl, rfl, rfl, rfl, rfl⟩ rfl rfl rfl rfl rfl (by kernel_rfl) Try.func7 (by kernel_rfl)
    (of_decide_eq_true (by kernel_rfl)) (by unfold Func.isWrapper; first | (rw [if_pos (by decide +kernel)]; kernel_rfl) | (rw [if_neg (by decide +kernel)]; exact ⟨rfl, rfl⟩))
    (fun os started H enc _ => framePiecesLifted os started H enc)
#print axioms framePieces_said
end Go.Proofs.Ytilbglkpbjamfaa

namespace Go.Proofs.Ytilbglkpbjamfaa
open Go.ChangeShapes Go.WideShapes Go.ChangeAt Go.RowKit Go.Eng
set_option linter.unusedVariables false

theorem ownF : ownKnob Try.prog.godebug = none := by kernel_rfl
theorem laidF : laidOutB Try.prog = true := by kernel_rfl

set_option maxHeartbeats 800000 in
set_option maxRecDepth 100000 in
theorem frameFoundLifted (os : Os) (started : os.Started) (H : Type) (enc : TypeId × Value → H) :
    ReturnsInHanded {} Try.checked os 6 .any (Rows.frameFoundSpec.pre6 enc Try.prog Try.f6 Rows.frameFoundRow.domain false) (Rows.frameFoundSpec.post enc Try.prog Try.f6 false true false false) := by
  refine returnsInHanded_of_change (C := Try.checked) ownF started (by kernel_rfl) Try.func6
    (ChangeSpec.witness6 (enc := enc) (C := Try.checked) false ⟨#[], #[.slice none 0 0, .slice none 0 0, .slice none 0 0], []⟩ 8 (by kernel_rfl) (by kernel_rfl) (by kernel_rfl) (by kernel_rfl)) ?_
  intro W base args ds gs before hval0 hW hcnd _
  have hval : ∀ (j : Nat) t v, Try.f6.params[j]? = some t → args[j]? = some v → Value.okWide Try.prog W .any base t v := hval0
  have hW' := hW
  obtain ⟨p, q, hA0, hV, rfl, hfz, hnd⟩ := hW
  have hA : DataW.TrodAll enc Try.prog W 0 (fun _ => true) true Try.f6.params.toList args.toList ds p := hA0
  rw [Try.params6] at hA hval
  obtain ⟨v0, vs0, d0, ds0, p0, q0, hargs, rfl, rfl, h0, r0⟩ := trodAll_cons hA
  obtain ⟨v1, vs1, d1, ds1, p1, q1, rfl, rfl, rfl, h1, r1⟩ := trodAll_cons r0
  obtain ⟨v2, vs2, d2, ds2, p2, q2, rfl, rfl, rfl, h2, r2⟩ := trodAll_cons r1
  obtain ⟨rfl, rfl, rfl⟩ := trodAll_nil r2
  obtain rfl : args = #[v0, v1, v2] := by cases args; simp_all
  obtain ⟨rfl, rfl⟩ := trodVars_none hV
  have k0 := h0
  have lt0 : ∀ x ∈ p0, x.block < W.heap.size := by obtain ⟨m, hm⟩ := k0; exact DataW.trod_lt m _ _ _ hm
  obtain ⟨xs0, w0, z0⟩ : ∃ xs : List (ty 0), Rep W (· < W.heap.size) noIds v0 (.sl 0 xs) ∧ DSz Z0 d0 xs := by
    obtain ⟨fuel, hf⟩ := h0
    exact rep_in (c := 0) (by decide) Try.underlying23 (by kernel_rfl) (cells_u8 Try.underlying5) (hval 0 23 v0 rfl rfl) hf
  have k1 := h1
  have lt1 : ∀ x ∈ p1, x.block < W.heap.size := by obtain ⟨m, hm⟩ := k1; exact DataW.trod_lt m _ _ _ hm
  obtain ⟨xs1, w1, z1⟩ : ∃ xs : List (ty 8), Rep W (· < W.heap.size) noIds v1 (.sl 8 xs) ∧ DSz ZMsg d1 xs := by
    obtain ⟨fuel, hf⟩ := h1
    exact rep_in (c := 8) (by decide) Try.underlying41 (by kernel_rfl) (cells_msg Try.underlying25 (by kernel_rfl) rfl Try.underlying5 Try.underlying22 Try.underlying23 Try.underlying5 (by kernel_rfl) (by kernel_rfl) (by kernel_rfl) (by kernel_rfl)) (hval 1 41 v1 rfl rfl) hf
  have k2 := h2
  have lt2 : ∀ x ∈ p2, x.block < W.heap.size := by obtain ⟨m, hm⟩ := k2; exact DataW.trod_lt m _ _ _ hm
  obtain ⟨xs2, w2, z2⟩ : ∃ xs : List (ty 0), Rep W (· < W.heap.size) noIds v2 (.sl 0 xs) ∧ DSz Z0 d2 xs := by
    obtain ⟨fuel, hf⟩ := h2
    exact rep_in (c := 0) (by decide) Try.underlying23 (by kernel_rfl) (cells_u8 Try.underlying5) (hval 2 23 v2 rfl rfl) hf
  clear hA0 hval0
  refine (calls_of_holds frameFound_ok Try.call6 (w := W) (vals := #[v0, v1, v2]) (args := [.sl 0 xs0, .sl 8 xs1, .sl 0 xs2]) rfl (fun j v hj => ?_) rfl).mono fun e W' ⟨he, bel⟩ => ?_
  · rcases j with _ | _ | _ | j
    · simp at hj; subst hj; exact w0
    · simp at hj; subst hj; exact w1
    · simp at hj; subst hj; exact w2
    · simp at hj
  subst he
  exact ⟨_, rfl, _, _, _, [], _, [], hW', trodAll_mk1 (shut_bool Try.underlying4 _), (trodAll_cons_mk (Below.trod laidF (by kernel_rfl) (of_decide_eq_true (by kernel_rfl)) k0 bel lt0) (trodAll_cons_mk (Below.trod laidF (by kernel_rfl) (of_decide_eq_true (by kernel_rfl)) k1 bel lt1) (trodAll_cons_mk (Below.trod laidF (by kernel_rfl) (of_decide_eq_true (by kernel_rfl)) k2 bel lt2) trodAll_mk0))), rfl, bel.frame _, fun h => by cases h⟩

theorem frameFound_said : Rows.FrameFoundSaid :=
  OpenClaim.holds_of_wide 6 Try.f6 rfl rfl rfl rfl rfl rfl rfl ⟨rfl, rfl, rfl, rfl, rfl⟩ rfl rfl rfl rfl rfl (by kernel_rfl) Try.func6 (by kernel_rfl)
    (of_decide_eq_true (by kernel_rfl)) (by unfold Func.isWrapper; first | (rw [if_pos (by decide +kernel)]; kernel_rfl) | (rw [if_neg (by decide +kernel)]; exact ⟨rfl, rfl⟩))
    (fun os started H enc _ => frameFoundLifted os started H enc)
#print axioms frameFound_said
end Go.Proofs.Ytilbglkpbjamfaa


